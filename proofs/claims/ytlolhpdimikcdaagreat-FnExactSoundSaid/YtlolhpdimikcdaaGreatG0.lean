/- A way of showing what a function computes: the blocks of the heap are owned by the places that hold them; this is a part of it. No conditions. -/
import Derived.Calls
import Derived.IntWalk
import Derived.KernelRfl
set_option linter.unusedVariables false
set_option linter.unusedSimpArgs false
set_option linter.unusedSectionVars false
namespace Go.Fw
inductive A where
 | v (x:Value)
 | s (xs:List (List A))
inductive Md where
 | own (pin:Option (Nat × Nat))
 | ro (S:List Nat)
 | dead
 deriving DecidableEq
inductive CT where
 | d
 | sl (m:Md) (e:List CT)
abbrev Pl:=Nat × List Nat
abbrev Col:=Nat->Option Pl
def Pl.at (p:Pl) (j:Nat):Pl:=(p.1,p.2++[j])
def okro (κ:Col) (w:World) (S:List Nat) (b:Nat):Prop:=b<w.heap.size/\∀r p,κ b=some (r,p)->r∈S/\p≠[]
def cellD (w:World) (b o:Nat):Value:=(w.cell? ⟨b,o,none⟩).getD undef
def sc:Value->Bool
 | .bool _ | .int _ _ | .string _=>true
 | _=>false
def Rdb (w:World) (b lo hi:Nat):Prop:=∀o,lo<=o->o<hi->∃x,w.cell? ⟨b,o,none⟩=some x
def Wrb (w:World) (b lo hi:Nat):Prop:=∀o,lo<=o->o<hi->(∃x,w.cell? ⟨b,o,none⟩=some x)/\w.frozen? ⟨b,o,none⟩=false
mutual
def RC (κ:Col) (w:World):CT->Pl->Value->A->Prop
 | .d,_,x,.v y=>x=y/\sc y=true
 | .sl (.own _) e,p,x,.s xs=>∃ao cap,x = .slice ao xs.length cap/\xs.length<=cap /\
   ((ao=none/\cap=0)\/∃b o,ao=some ⟨b,o,none⟩/\b<w.heap.size/\κ b=some p/\Wrb w b o (o+cap*e.length)/\RCE κ w e p 0 (fun j=>cellD w b (o+j)) xs)
 | .sl (.ro S) e,p,x,.s xs=>∃ao cap,x = .slice ao xs.length cap/\xs.length<=cap /\
   (xs=[]\/∃b o,ao=some ⟨b,o,none⟩/\okro κ w S b/\Rdb w b o (o+xs.length*e.length)/\RCE κ w e p 0 (fun j=>cellD w b (o+j)) xs)
 | .sl .dead _,_,_,_=>True
 | _,_,_,_=>False
def RCL (κ:Col) (w:World):List CT->Pl->Nat->(Nat->Value)->List A->Prop
 | [],_,_,_,[]=>True
 | c::cs,p,j,get,a::as=>RC κ w c (p.at j) (get j) a/\RCL κ w cs p (j+1) get as
 | _,_,_,_,_=>False
def RCE (κ:Col) (w:World):List CT->Pl->Nat->(Nat->Value)->List (List A)->Prop
 | _,_,_,_,[]=>True
 | e,p,j,get,x::xs=>RCL κ w e p j get x/\RCE κ w e p (j+e.length) get xs
end
mutual
def CT.mapS (f:List Nat->List Nat):CT->CT
 | .d=>.d
 | .sl (.ro S) e=>.sl (.ro (f S)) (CT.mapSs f e)
 | .sl m e=>.sl m (CT.mapSs f e)
def CT.mapSs (f:List Nat->List Nat):List CT->List CT
 | []=>[]
 | c::cs=>c.mapS f::CT.mapSs f cs
end
mutual
def CT.roize (S:List Nat):CT->CT
 | .d=>.d
 | .sl _ e=>.sl (.ro S) (CT.roizes S e)
def CT.roizes (S:List Nat):List CT->List CT
 | []=>[]
 | c::cs=>c.roize S::CT.roizes S cs
end
mutual
def CT.allS (P:List Nat->Prop):CT->Prop
 | .d=>True
 | .sl (.ro S) e=>P S/\CT.allSs P e
 | .sl _ e=>CT.allSs P e
def CT.allSs (P:List Nat->Prop):List CT->Prop
 | []=>True
 | c::cs=>c.allS P/\CT.allSs P cs
end
mutual
def CT.live:CT->Bool
 | .d=>true
 | .sl .dead _=>false
 | .sl _ e=>CT.lives e
def CT.lives:List CT->Bool
 | []=>true
 | c::cs=>c.live&&CT.lives cs
end
theorem mapSs_length (f:List Nat->List Nat) (cs:List CT):(CT.mapSs f cs).length=cs.length:=by
 induction cs with
 | nil=>simp [CT.mapSs]
 | cons c cs ih=>simp [CT.mapSs,ih]
theorem roizes_length (S:List Nat) (cs:List CT):(CT.roizes S cs).length=cs.length:=by
 induction cs with
 | nil=>simp [CT.roizes]
 | cons c cs ih=>simp [CT.roizes,ih]
theorem mapS_d (f:List Nat->List Nat):CT.mapS f .d = .d:=by simp [CT.mapS]
theorem mapS_own (f:List Nat->List Nat) (k:Option (Nat × Nat)) (e:List CT):CT.mapS f (.sl (.own k) e) = .sl (.own k) (CT.mapSs f e):=by simp [CT.mapS]
theorem mapS_ro (f:List Nat->List Nat) (S:List Nat) (e:List CT):CT.mapS f (.sl (.ro S) e) = .sl (.ro (f S)) (CT.mapSs f e):=by simp [CT.mapS]
theorem mapS_dead (f:List Nat->List Nat) (e:List CT):CT.mapS f (.sl .dead e) = .sl .dead (CT.mapSs f e):=by simp [CT.mapS]
theorem RCL_length {κ:Col} {w:World}:∀{cs:List CT} {p:Pl} {j:Nat} {get:Nat->Value} {as:List A},RCL κ w cs p j get as->as.length=cs.length
 | [],_,_,_,[],_=>rfl
 | c::cs,p,j,get,a::as,h=>by
  simp only [RCL] at h;simp [RCL_length h.2]
 | [],_,_,_,_::_,h=>by simp [RCL] at h
 | _::_,_,_,_,[],h=>by simp [RCL] at h
theorem RCL_get {κ:Col} {w:World} {p:Pl} {get get':Nat->Value}:∀{cs:List CT} {j:Nat} {as:List A},(∀i,j<=i->i<j+cs.length->get' i=get i) ->
  RCL κ w cs p j get as->RCL κ w cs p j get' as
 | [],_,[],_,_=>by simp [RCL]
 | c::cs,j,a::as,hg,h=>by
  simp only [RCL] at h ⊢;refine ⟨?_,RCL_get (fun i h1 h2=>hg i (by omega) (by simp;omega)) h.2⟩;rw [hg j (Nat.le_refl _) (by simp)];exact h.1
 | [],_,_::_,_,h=>by simp [RCL] at h
 | _::_,_,[],_,h=>by simp [RCL] at h
theorem RCE_get {κ:Col} {w:World} {p:Pl} {get get':Nat->Value} {e:List CT}:∀{j:Nat} {xs:List (List A)},(∀i,j<=i->i<j+xs.length*e.length->get' i=get i) ->
  RCE κ w e p j get xs->RCE κ w e p j get' xs
 | _,[],_,_=>by simp [RCE]
 | j,x::xs,hg,h=>by
  simp only [RCE] at h ⊢;have hl:(x::xs).length*e.length=xs.length*e.length+e.length:=by simp [Nat.add_mul]
  refine ⟨RCL_get (fun i h1 h2=>hg i h1 (by omega)) h.1,RCE_get (fun i h1 h2=>hg i (by omega) (by omega)) h.2⟩
def Same (w w':World) (b:Nat):Prop:=(b<w.heap.size->b<w'.heap.size)/\∀o x,w.cell? ⟨b,o,none⟩=some x->w'.cell? ⟨b,o,none⟩=some x/\w'.frozen? ⟨b,o,none⟩=w.frozen? ⟨b,o,none⟩
theorem Same.refl (w:World) (b:Nat):Same w w b:=⟨id,fun _ _ h=>⟨h,rfl⟩⟩
theorem Same.rdb {w w':World} {b lo hi:Nat} (h:Same w w' b) (hr:Rdb w b lo hi):Rdb w' b lo hi:=
 fun o h1 h2=>let ⟨x,hx⟩:=hr o h1 h2;⟨x,(h.2 o x hx).1⟩
theorem Same.wrb {w w':World} {b lo hi:Nat} (h:Same w w' b) (hr:Wrb w b lo hi):Wrb w' b lo hi:=
 fun o h1 h2=>let ⟨⟨x,hx⟩,hf⟩:=hr o h1 h2;⟨⟨x,(h.2 o x hx).1⟩,by rw [(h.2 o x hx).2];exact hf⟩
theorem Same.cD {w w':World} {b lo hi o:Nat} (h:Same w w' b) (hr:Rdb w b lo hi) (h1:lo<=o) (h2:o<hi):cellD w' b o=cellD w b o:=by
 obtain ⟨x,hx⟩:=hr o h1 h2;simp [Fw.cellD,hx,(h.2 o x hx).1]
theorem Wrb.rdb {w:World} {b lo hi:Nat} (h:Wrb w b lo hi):Rdb w b lo hi:=fun o h1 h2=>(h o h1 h2).1
theorem Wrb.sub {w:World} {b lo hi lo' hi':Nat} (h:Wrb w b lo hi) (h1:lo<=lo') (h2:hi'<=hi):Wrb w b lo' hi':=fun o g1 g2=>h o (by omega) (by omega)
theorem Rdb.sub {w:World} {b lo hi lo' hi':Nat} (h:Rdb w b lo hi) (h1:lo<=lo') (h2:hi'<=hi):Rdb w b lo' hi':=fun o g1 g2=>h o (by omega) (by omega)
section move
variable {κ κ':Col} {w w':World} {f:List Nat->List Nat} {P:List Nat->Prop}
mutual
theorem RC_move (hro:∀S,P S->∀b,okro κ w S b->okro κ' w' (f S) b/\Same w w' b):∀{c:CT} {p p':Pl} {x:Value} {a:A},c.allS P ->
  (∀b q,κ b=some (p.1,p.2++q)->κ' b=some (p'.1,p'.2++q)/\Same w w' b)->RC κ w c p x a->RC κ' w' (c.mapS f) p' x a
 | .d,p,p',x,.v y,_,_,h=>by rw [mapS_d];simp only [RC] at h ⊢;exact h
 | .sl (.own k) e,p,p',x,.s xs,hs,ho,h=>by
  rw [mapS_own];simp only [RC,CT.allS] at h hs ⊢;obtain ⟨ao,cap,hx,hle,hc⟩:=h;refine ⟨ao,cap,hx,hle,?_⟩;rcases hc with hn|⟨b,o,rfl,hbs,hb,hw,he⟩
  ·exact .inl hn
  ·obtain ⟨hb',hsame⟩:=ho b [] (by simpa using hb);have hr:=hw.rdb;refine .inr ⟨b,o,rfl,hsame.1 hbs,by simpa using hb',by rw [mapSs_length];exact hsame.wrb hw,?_⟩;refine RCE_get (fun i _ hi => ?_) (RCE_move hro hs ho he);rw [mapSs_length] at hi;have:=Nat.mul_le_mul_right e.length hle;exact hsame.cD hr (by omega) (by omega)
 | .sl (.ro S) e,p,p',x,.s xs,hs,ho,h=>by
  rw [mapS_ro];simp only [RC,CT.allS] at h hs ⊢;obtain ⟨ao,cap,hx,hle,hc⟩:=h;refine ⟨ao,cap,hx,hle,?_⟩;rcases hc with hn|⟨b,o,rfl,hb,hr,he⟩
  ·exact .inl hn
  ·obtain ⟨hb',hsame⟩:=hro S hs.1 b hb;refine .inr ⟨b,o,rfl,hb',by rw [mapSs_length];exact hsame.rdb hr,?_⟩;refine RCE_get (fun i _ hi => ?_) (RCE_move hro hs.2 ho he);rw [mapSs_length] at hi;exact hsame.cD hr (by omega) (by omega)
 | .sl .dead e,p,p',x,a,_,_,_=>by rw [mapS_dead];cases a<;>simp [RC]
 | .d,_,_,_,.s _,_,_,h=>by simp [RC] at h
 | .sl (.own _) _,_,_,_,.v _,_,_,h=>by simp [RC] at h
 | .sl (.ro _) _,_,_,_,.v _,_,_,h=>by simp [RC] at h
theorem RCL_move (hro:∀S,P S->∀b,okro κ w S b->okro κ' w' (f S) b/\Same w w' b):∀{cs:List CT} {p p':Pl} {j:Nat} {get:Nat->Value} {as:List A},CT.allSs P cs ->
  (∀b q,κ b=some (p.1,p.2++q)->κ' b=some (p'.1,p'.2++q)/\Same w w' b)->RCL κ w cs p j get as->RCL κ' w' (CT.mapSs f cs) p' j get as
 | [],_,_,_,_,[],_,_,_=>by simp [CT.mapSs,RCL]
 | c::cs,p,p',j,get,a::as,hs,ho,h=>by
  simp only [CT.mapSs,CT.allSs,RCL] at h hs ⊢;refine ⟨RC_move hro hs.1 (fun b q hb => ?_) h.1,RCL_move hro hs.2 ho h.2⟩;have:=ho b (j::q) (by simpa [Pl.at] using hb);simpa [Pl.at] using this
 | [],_,_,_,_,_::_,_,_,h=>by simp [RCL] at h
 | _::_,_,_,_,_,[],_,_,h=>by simp [RCL] at h
theorem RCE_move (hro:∀S,P S->∀b,okro κ w S b->okro κ' w' (f S) b/\Same w w' b):∀{e:List CT} {p p':Pl} {j:Nat} {get:Nat->Value} {xs:List (List A)},CT.allSs P e ->
  (∀b q,κ b=some (p.1,p.2++q)->κ' b=some (p'.1,p'.2++q)/\Same w w' b)->RCE κ w e p j get xs->RCE κ' w' (CT.mapSs f e) p' j get xs
 | _,_,_,_,_,[],_,_,_=>by simp [RCE]
 | e,p,p',j,get,x::xs,hs,ho,h=>by
  simp only [RCE] at h ⊢;rw [mapSs_length];exact ⟨RCL_move hro hs ho h.1,RCE_move hro hs ho h.2⟩
end
end move
section look
variable {κ:Col} {w:World} {S:List Nat}
theorem okro_mono {S':List Nat} {b:Nat} (h:okro κ w S b) (hs:∀r,r∈S->r∈S'):okro κ w S' b:=⟨h.1,fun r p hb=>⟨hs r (h.2 r p hb).1,(h.2 r p hb).2⟩⟩
theorem okro_of {b:Nat} {p:Pl} (hb:b<w.heap.size) (h:κ b=some p) (hp:p.1∈S) (h0:p.2≠[]):okro κ w S b:=⟨hb,fun r q hb=>by rw [h] at hb;cases hb;exact ⟨hp,h0⟩⟩
mutual
theorem RC_ro:∀{c:CT} {p p':Pl} {x:Value} {a:A},c.live=true->p.1∈S->p.2≠[]->c.allS (fun S0=>∀r,r∈S0->r∈S)->RC κ w c p x a->RC κ w (c.roize S) p' x a
 | .d,_,_,_,.v _,_,_,_,_,h=>by simp only [CT.roize,RC] at h ⊢;exact h
 | .sl (.own k) e,p,p',x,.s xs,hl,hp,h0,hs,h=>by
  simp only [CT.roize,RC,CT.allS,CT.live] at h hs hl ⊢;obtain ⟨ao,cap,hx,hle,hc⟩:=h;refine ⟨ao,cap,hx,hle,?_⟩;rcases hc with ⟨rfl,rfl⟩|⟨b,o,rfl,hbs,hb,hw,he⟩
  ·exact .inl (List.length_eq_zero_iff.1 (by omega))
  ·have:=Nat.mul_le_mul_right e.length hle;refine .inr ⟨b,o,rfl,okro_of hbs hb hp h0,by rw [roizes_length];exact hw.rdb.sub (Nat.le_refl _) (by omega),?_⟩;exact RCE_ro hl hp hs he
 | .sl (.ro S0) e,p,p',x,.s xs,hl,hp,h0,hs,h=>by
  simp only [CT.roize,RC,CT.allS,CT.live] at h hs hl ⊢;obtain ⟨ao,cap,hx,hle,hc⟩:=h;refine ⟨ao,cap,hx,hle,?_⟩;rcases hc with hn|⟨b,o,rfl,hb,hr,he⟩
  ·exact .inl hn
  ·exact .inr ⟨b,o,rfl,okro_mono hb hs.1,by rw [roizes_length];exact hr,RCE_ro hl hp hs.2 he⟩
 | .sl .dead e,_,_,_,_,hl,_,_,_,_=>by simp [CT.live] at hl
 | .d,_,_,_,.s _,_,_,_,_,h=>by simp [RC] at h
 | .sl (.own _) _,_,_,_,.v _,_,_,_,_,h=>by simp [RC] at h
 | .sl (.ro _) _,_,_,_,.v _,_,_,_,_,h=>by simp [RC] at h
theorem RCL_ro:∀{cs:List CT} {p p':Pl} {j:Nat} {get:Nat->Value} {as:List A},CT.lives cs=true->p.1∈S->CT.allSs (fun S0=>∀r,r∈S0->r∈S) cs ->
  RCL κ w cs p j get as->RCL κ w (CT.roizes S cs) p' j get as
 | [],_,_,_,_,[],_,_,_,_=>by simp [CT.roizes,RCL]
 | c::cs,p,p',j,get,a::as,hl,hp,hs,h=>by
  simp only [CT.roizes,CT.allSs,CT.lives,RCL,Bool.and_eq_true] at h hs hl ⊢;exact ⟨RC_ro (p:=p.at j) hl.1 hp (by simp [Pl.at]) hs.1 h.1,RCL_ro hl.2 hp hs.2 h.2⟩
 | [],_,_,_,_,_::_,_,_,_,h=>by simp [RCL] at h
 | _::_,_,_,_,_,[],_,_,_,h=>by simp [RCL] at h
theorem RCE_ro:∀{e:List CT} {p p':Pl} {j:Nat} {get:Nat->Value} {xs:List (List A)},CT.lives e=true->p.1∈S->CT.allSs (fun S0=>∀r,r∈S0->r∈S) e ->
  RCE κ w e p j get xs->RCE κ w (CT.roizes S e) p' j get xs
 | _,_,_,_,_,[],_,_,_,_=>by simp [RCE]
 | e,p,p',j,get,x::xs,hl,hp,hs,h=>by
  simp only [RCE] at h ⊢;rw [roizes_length];exact ⟨RCL_ro hl hp hs h.1,RCE_ro hl hp hs h.2⟩
end
end look
end Go.Fw
namespace Go.Fw
theorem RCL_drop {κ:Col} {w:World} {p:Pl} {get:Nat->Value}:∀(k:Nat) {cs:List CT} {j:Nat} {as:List A},RCL κ w cs p j get as ->
  RCL κ w (cs.drop k) p (j+k) get (as.drop k)
 | 0,_,_,_,h=>by simpa using h
 | k+1,[],j,[],_=>by simp [RCL]
 | k+1,c::cs,j,a::as,h=>by
  simp only [RCL] at h;have:=RCL_drop k h.2;simpa [Nat.add_comm,Nat.add_left_comm,Nat.add_assoc] using this
 | _+1,[],_,_::_,h=>by simp [RCL] at h
 | _+1,_::_,_,[],h=>by simp [RCL] at h
theorem RCL_take {κ:Col} {w:World} {p:Pl} {get:Nat->Value}:∀(k:Nat) {cs:List CT} {j:Nat} {as:List A},RCL κ w cs p j get as ->
  RCL κ w (cs.take k) p j get (as.take k)
 | 0,_,_,_,_=>by simp [RCL]
 | k+1,[],j,[],_=>by simp [RCL]
 | k+1,c::cs,j,a::as,h=>by
  simp only [RCL,List.take_succ_cons] at h ⊢;exact ⟨h.1,RCL_take k h.2⟩
 | _+1,[],_,_::_,h=>by simp [RCL] at h
 | _+1,_::_,_,[],h=>by simp [RCL] at h
theorem RCL_append {κ:Col} {w:World} {p:Pl} {get:Nat->Value}:∀{cs:List CT} {j:Nat} {as:List A} {cs':List CT} {as':List A},RCL κ w cs p j get as ->
  RCL κ w cs' p (j+cs.length) get as'->RCL κ w (cs++cs') p j get (as++as')
 | [],j,[],_,_,_,h'=>by simpa using h'
 | c::cs,j,a::as,cs',as',h,h'=>by
  simp only [RCL,List.cons_append] at h ⊢;exact ⟨h.1,RCL_append h.2 (by simpa [Nat.add_comm,Nat.add_left_comm,Nat.add_assoc] using h')⟩
 | [],_,_::_,_,_,h,_=>by simp [RCL] at h
 | _::_,_,[],_,_,h,_=>by simp [RCL] at h
theorem RCL_nth {κ:Col} {w:World} {p:Pl} {get:Nat->Value}:∀{cs:List CT} {j:Nat} {as:List A} {k:Nat} {c:CT} {a:A},RCL κ w cs p j get as ->
  cs[k]?=some c->as[k]?=some a->RC κ w c (p.at (j+k)) (get (j+k)) a
 | c::cs,j,a::as,0,c',a',h,hc,ha=>by
  simp only [RCL] at h;simp at hc ha;subst hc;subst ha;exact h.1
 | c::cs,j,a::as,k+1,c',a',h,hc,ha=>by
  simp only [RCL] at h;have:=RCL_nth (k:=k) h.2 (by simpa using hc) (by simpa using ha);simpa [Nat.add_comm,Nat.add_left_comm,Nat.add_assoc] using this
 | [],_,_,_,_,_,_,hc,_=>by simp at hc
 | _::_,_,[],_,_,_,_,_,ha=>by simp at ha
theorem RCL_of_nth {κ:Col} {w:World} {p:Pl} {get:Nat->Value}:∀{cs:List CT} {j:Nat} {as:List A},as.length=cs.length ->
  (∀k c a,cs[k]?=some c->as[k]?=some a->RC κ w c (p.at (j+k)) (get (j+k)) a)->RCL κ w cs p j get as
 | [],_,[],_,_=>by simp [RCL]
 | c::cs,j,a::as,hl,h=>by
  simp only [RCL];refine ⟨by simpa using h 0 c a rfl rfl,RCL_of_nth (by simpa using hl) fun k c' a' hc ha => ?_⟩;have:=h (k+1) c' a' (by simpa using hc) (by simpa using ha);simpa [Nat.add_comm,Nat.add_left_comm,Nat.add_assoc] using this
 | [],_,_::_,hl,_=>by simp at hl
 | _::_,_,[],hl,_=>by simp at hl
theorem RCE_nth {κ:Col} {w:World} {p:Pl} {get:Nat->Value} {e:List CT}:∀{j:Nat} {xs:List (List A)} {i:Nat} {x:List A},RCE κ w e p j get xs ->
  xs[i]?=some x->RCL κ w e p (j+i*e.length) get x
 | _,x::xs,0,x',h,hx=>by
  simp only [RCE] at h;simp at hx;subst hx;simpa using h.1
 | j,x::xs,i+1,x',h,hx=>by
  simp only [RCE] at h;have:=RCE_nth (i:=i) h.2 (by simpa using hx);rw [Nat.add_mul,Nat.one_mul];rw [show j+(i*e.length+e.length)=j+e.length+i*e.length from by omega];exact this
 | _,[],_,_,_,hx=>by simp at hx
theorem RCE_of_nth {κ:Col} {w:World} {p:Pl} {get:Nat->Value} {e:List CT}:∀{j:Nat} {xs:List (List A)},
  (∀i x,xs[i]?=some x->RCL κ w e p (j+i*e.length) get x)->RCE κ w e p j get xs
 | _,[],_=>by simp [RCE]
 | j,x::xs,h=>by
  simp only [RCE];refine ⟨by simpa using h 0 x rfl,RCE_of_nth fun i y hy => ?_⟩;have:=h (i+1) y (by simpa using hy);rw [Nat.add_mul,Nat.one_mul] at this;rw [show j+e.length+i*e.length=j+(i*e.length+e.length) from by omega];exact this
theorem RCE_append {κ:Col} {w:World} {p:Pl} {get:Nat->Value} {e:List CT} {xs ys:List (List A)} {j:Nat} (h:RCE κ w e p j get xs)
  (h':RCE κ w e p (j+xs.length*e.length) get ys):RCE κ w e p j get (xs++ys):=by
 refine RCE_of_nth fun i x hx => ?_
 rw [List.getElem?_append] at hx;split at hx
 ·exact RCE_nth h hx
 ·have:=RCE_nth h' hx;rename_i hi;have e1:j+xs.length*e.length+(i-xs.length)*e.length=j+i*e.length:=by
   have:i=xs.length+(i-xs.length):=by omega
   conv=>rhs;rw [this]
   rw [Nat.add_mul];omega
  rw [e1] at this;exact this
theorem RCL_ros {κ:Col} {w:World} {S:List Nat} {p p':Pl} {get get':Nat->Value} {cs:List CT} {j j':Nat} {as:List A} (hl:CT.lives cs=true) (hp:p.1∈S)
  (hs:CT.allSs (fun S0=>∀r,r∈S0->r∈S) cs) (hg:∀i,i<cs.length->get' (j'+i)=get (j+i)) (h:RCL κ w cs p j get as):RCL κ w (CT.roizes S cs) p' j' get' as:=by
 induction cs generalizing j j' as with
 | nil=>cases as with
  | nil=>simp [CT.roizes,RCL]
  | cons=>simp [RCL] at h
 | cons c cs ih=>
  cases as with
  | nil=>simp [RCL] at h
  | cons a as=>
   simp only [CT.roizes,CT.allSs,CT.lives,RCL,Bool.and_eq_true] at h hs hl ⊢;refine ⟨?_,ih hl.2 hs.2 (fun i hi => ?_) h.2⟩
   ·have:=hg 0 (by simp);simp at this;rw [this];exact RC_ro (p:=p.at j) hl.1 hp (by simp [Pl.at]) hs.1 h.1
   ·have:=hg (i+1) (by simpa using hi);simpa [Nat.add_comm,Nat.add_left_comm,Nat.add_assoc] using this
theorem RCL_moves {κ κ':Col} {w w':World} {f:List Nat->List Nat} {P:List Nat->Prop} {p p':Pl} {get get':Nat->Value} {cs:List CT} {j j':Nat} {as:List A}
  (hro:∀S,P S->∀b,okro κ w S b->okro κ' w' (f S) b/\Same w w' b) (hs:CT.allSs P cs)
  (ho:∀i,i<cs.length->∀b q,κ b=some (p.1,p.2++(j+i)::q)->κ' b=some (p'.1,p'.2++(j'+i)::q)/\Same w w' b)
  (hg:∀i,i<cs.length->get' (j'+i)=get (j+i)) (h:RCL κ w cs p j get as):RCL κ' w' (CT.mapSs f cs) p' j' get' as:=by
 induction cs generalizing j j' as with
 | nil=>cases as with
  | nil=>simp [CT.mapSs,RCL]
  | cons=>simp [RCL] at h
 | cons c cs ih=>
  cases as with
  | nil=>simp [RCL] at h
  | cons a as=>
   simp only [CT.mapSs,CT.allSs,RCL] at h hs ⊢;refine ⟨?_,ih hs.2 (fun i hi b q hb => ?_) (fun i hi => ?_) h.2⟩
   ·have:=hg 0 (by simp);simp at this;rw [this];refine RC_move hro hs.1 (fun b q hb => ?_) h.1;have:=ho 0 (by simp) b q (by simpa [Pl.at] using hb);simpa [Pl.at] using this
   ·have:=ho (i+1) (by simpa using hi) b q (by rw [show j+(i+1)=j+1+i from by omega];exact hb);rw [show j'+1+i=j'+(i+1) from by omega];exact this
   ·have:=hg (i+1) (by simpa using hi);rw [show j'+1+i=j'+(i+1) from by omega,show j+1+i=j+(i+1) from by omega];exact this
abbrev Sk:=List (Nat × Nat)
def lookL:List A->Sk->List Nat->Option (List A)
 | as,[],[]=>some as
 | as,(c,_)::sk,i::is=>match as[c]? with
  | some (.s xs)=>match xs[i]? with
   | some x=>lookL x sk is
   | none=>none
  | _=>none
 | _,_,_=>none
def setL:List A->Sk->List Nat->List A->List A
 | _,[],_,x=>x
 | as,(c,_)::sk,i::is,x=>match as[c]? with
  | some (.s xs)=>match xs[i]? with
   | some y=>as.set c (.s (xs.set i (setL y sk is x)))
   | none=>as
  | _=>as
 | as,_,_,_=>as
def tagL (own:Bool):List CT->Sk->Option (List CT)
 | cs,[]=>some cs
 | cs,(c,n)::sk=>match cs[c]? with
  | some (.sl (.own _) e)=>if e.length=n then tagL own e sk else none
  | some (.sl (.ro _) e)=>if e.length=n/\own=false then tagL own e sk else none
  | _=>none
def wk (w:World):(Nat->Value)->Option (Nat × Nat)->Sk->List Nat->Option (Nat × Nat)
 | _,bo,[],[]=>bo
 | get,_,(c,n)::sk,i::is=>match get c with
  | .slice (some ⟨b,o,none⟩) len _=>if i<len then wk w (fun k=>cellD w b (o+i*n+k)) (some (b,o+i*n)) sk is else none
  | _=>none
 | _,_,_,_=>none
def pth (p:List Nat) (j:Nat):Sk->List Nat->List Nat × Nat
 | (c,n)::sk,i::is=>pth (p++[j+c]) (i*n) sk is
 | _,_=>(p,j)
theorem pth_prefix:∀(sk:Sk) (is p:List Nat) (j:Nat),p <+: (pth p j sk is).1
 | [],_,p,j=>by simp [pth]
 | (c,n)::sk,[],p,j=>by simp [pth]
 | (c,n)::sk,i::is,p,j=>by
  simp only [pth];exact List.IsPrefix.trans (List.prefix_append p [j+c]) (pth_prefix sk is _ _)
theorem foc_own {κ:Col} {w:World} {r:Nat}:∀{sk:Sk} {is:List Nat} {cs:List CT} {p:List Nat} {j:Nat} {get:Nat->Value} {as x:List A} {e:List CT} {bo:Option (Nat × Nat)},
  sk≠[]->RCL κ w cs (r,p) j get as->tagL true cs sk=some e->lookL as sk is=some x ->
  ∃b o,wk w (fun k=>get (j+k)) bo sk is=some (b,o+(pth p j sk is).2)/\κ b=some (r,(pth p j sk is).1)/\Wrb w b (o+(pth p j sk is).2) (o+(pth p j sk is).2+e.length) /\
   RCL κ w e (r,(pth p j sk is).1) (pth p j sk is).2 (fun k=>cellD w b (o+k)) x
 | [],_,_,_,_,_,_,_,_,_,h,_,_,_=>absurd rfl h
 | (c,n)::sk,[],_,_,_,_,_,_,_,_,_,_,_,hl=>by simp [lookL] at hl
 | (c,n)::sk,i::is,cs,p,j,get,as,x,e,bo,_,h,ht,hl=>by
  simp only [lookL] at hl;split at hl;case h_2=>simp at hl
  case h_1 xs ha=>
  split at hl;case h_2=>simp at hl
  case h_1 y hy=>
  simp only [tagL] at ht;split at ht;case h_3=>simp at ht
  case h_2=>simp at ht
  case h_1 k0 e0 hc=>
  split at ht;case isFalse=>simp at ht
  case isTrue hn=>
  have hi:i<xs.length:=(List.getElem?_eq_some_iff.1 hy).1;have h1:=RCL_nth h hc ha;simp only [RC] at h1;obtain ⟨ao,cap,hx,hle,hcase⟩:=h1;rcases hcase with ⟨_,rfl⟩|⟨b,o,rfl,hbs,hb,hw,he⟩
  ·omega
  ·have hrow:=RCE_nth he hy;rw [hn] at hrow hw;simp only [Nat.zero_add] at hrow;simp only [wk,hx,if_pos hi,pth];cases sk with
   | nil=>
    simp only [tagL,Option.some.injEq] at ht;subst ht;cases is with
    | cons=>simp [lookL] at hl
    | nil=>
     simp only [lookL,Option.some.injEq] at hl;subst hl;refine ⟨b,o,by simp [wk,pth],by simpa [pth,Pl.at] using hb,?_,?_⟩
     ·simp only [pth,hn];refine hw.sub (by omega) ?_;have:=Nat.mul_le_mul_right n (show i+1<=cap by omega);rw [Nat.add_mul] at this;omega
     ·simpa [pth,Pl.at] using hrow
   | cons s sk=>
    have hrow':RCL κ w e0 (r,p++[j+c]) (i*n) (fun k=>cellD w b (o+k)) y:=by simpa [Pl.at] using hrow
    obtain ⟨b',o',hwk,rest⟩:=foc_own (sk:=s::sk) (bo:=some (b,o+i*n)) (by simp) hrow' ht hl;refine ⟨b',o',?_,rest⟩;rw [<-hwk];congr 1;funext k;rw [Nat.add_assoc]
theorem foc_ro {κ:Col} {w:World} {r:Nat}:∀{sk:Sk} {is:List Nat} {cs:List CT} {p:List Nat} {j:Nat} {get:Nat->Value} {as x:List A} {e:List CT} {bo:Option (Nat × Nat)},
  sk≠[]->RCL κ w cs (r,p) j get as->tagL false cs sk=some e->lookL as sk is=some x ->
  ∃b o,wk w (fun k=>get (j+k)) bo sk is=some (b,o+(pth p j sk is).2)/\Rdb w b (o+(pth p j sk is).2) (o+(pth p j sk is).2+e.length) /\
   RCL κ w e (r,(pth p j sk is).1) (pth p j sk is).2 (fun k=>cellD w b (o+k)) x
 | [],_,_,_,_,_,_,_,_,_,h,_,_,_=>absurd rfl h
 | (c,n)::sk,[],_,_,_,_,_,_,_,_,_,_,_,hl=>by simp [lookL] at hl
 | (c,n)::sk,i::is,cs,p,j,get,as,x,e,bo,_,h,ht,hl=>by
  simp only [lookL] at hl
  split at hl
  case h_2=>simp at hl
  case h_1 xs ha=>
  split at hl
  case h_2=>simp at hl
  case h_1 y hy=>
  have hi:i<xs.length:=(List.getElem?_eq_some_iff.1 hy).1
  obtain ⟨m,e0,b,o,cap,hc,hn,ht',hx,hr,he⟩:∃m e0 b o cap,cs[c]?=some (.sl m e0)/\e0.length=n/\tagL false e0 sk=some e/\get (j+c) = .slice (some ⟨b,o,none⟩) xs.length cap /\
    Rdb w b o (o+xs.length*n)/\RCE κ w e0 (r,p++[j+c]) 0 (fun k=>cellD w b (o+k)) xs:=by
   simp only [tagL] at ht;split at ht;case h_3=>simp at ht
   case h_1 k0 e0 hc=>
    split at ht;case isFalse=>simp at ht
    case isTrue hn=>
    have h1:=RCL_nth h hc ha;simp only [RC] at h1;obtain ⟨ao,cap,hx,hle,hcase⟩:=h1;rcases hcase with ⟨_,rfl⟩|⟨b,o,rfl,hbs,hb,hw,he⟩
    ·omega
    ·have:=Nat.mul_le_mul_right n hle;exact ⟨_,e0,b,o,cap,hc,hn,ht,hx,by rw [hn] at hw;exact hw.rdb.sub (Nat.le_refl _) (by omega),by simpa [Pl.at] using he⟩
   case h_2 S e0 hc=>
    split at ht;case isFalse=>simp at ht
    case isTrue hn=>
    have h1:=RCL_nth h hc ha;simp only [RC] at h1;obtain ⟨ao,cap,hx,hle,hcase⟩:=h1;rcases hcase with rfl|⟨b,o,rfl,hb,hr,he⟩
    ·simp at hi
    ·exact ⟨_,e0,b,o,cap,hc,hn.1,ht,hx,by rw [hn.1] at hr;exact hr,by simpa [Pl.at] using he⟩
  have hrow:=RCE_nth he hy
  rw [hn] at hrow
  simp only [Nat.zero_add] at hrow
  simp only [wk,hx,if_pos hi,pth]
  cases sk with
  | nil=>
   simp only [tagL,Option.some.injEq] at ht'
   subst ht'
   cases is with
   | cons=>simp [lookL] at hl
   | nil=>
    simp only [lookL,Option.some.injEq] at hl
    subst hl
    refine ⟨b,o,by simp [wk,pth],?_,?_⟩
    ·simp only [pth,hn]
     refine hr.sub (by omega) ?_
     have:=Nat.mul_le_mul_right n (show i+1<=xs.length by omega)
     rw [Nat.add_mul] at this;omega
    ·simpa [pth,Pl.at] using hrow
  | cons s sk=>
   obtain ⟨b',o',hwk,rest⟩:=foc_ro (sk:=s::sk) (bo:=some (b,o+i*n)) (by simp) hrow ht' hl
   refine ⟨b',o',?_,rest⟩
   rw [<-hwk]
   congr 1
   funext k;rw [Nat.add_assoc]
end Go.Fw
namespace Go.Fw
mutual
theorem mapS_id:∀c:CT,c.mapS id=c
 | .d=>by simp [CT.mapS]
 | .sl (.ro S) e=>by simp [CT.mapS,mapSs_id e]
 | .sl (.own _) e=>by simp [CT.mapS,mapSs_id e]
 | .sl .dead e=>by simp [CT.mapS,mapSs_id e]
theorem mapSs_id:∀cs:List CT,CT.mapSs id cs=cs
 | []=>by simp [CT.mapSs]
 | c::cs=>by simp [CT.mapSs,mapS_id c,mapSs_id cs]
end
theorem allSs_nth {P:List Nat->Prop}:∀{cs:List CT} {k:Nat} {c:CT},CT.allSs P cs->cs[k]?=some c->c.allS P
 | c::cs,0,c',h,hc=>by simp at hc;subst hc;simp only [CT.allSs] at h;exact h.1
 | c::cs,k+1,c',h,hc=>by simp only [CT.allSs] at h;exact allSs_nth h.2 (by simpa using hc)
 | [],_,_,_,hc=>by simp at hc
theorem RC_stay {κ κ':Col} {w w':World} {c:CT} {p:Pl} {x:Value} {a:A} (hs:c.allS (fun S=>∀b,okro κ w S b->okro κ' w' S b/\Same w w' b))
  (ho:∀b q,κ b=some (p.1,p.2++q)->κ' b=κ b/\Same w w' b) (h:RC κ w c p x a):RC κ' w' c p x a:=by
 have:=RC_move (f:=id) (P:=fun S=>∀b,okro κ w S b->okro κ' w' S b/\Same w w' b) (κ':=κ') (w':=w') (p':=p) (fun S hS b hb=>hS b hb) hs
  (fun b q hb=>⟨by rw [(ho b q hb).1];exact hb,(ho b q hb).2⟩) h
 rwa [mapS_id] at this
theorem RCL_stay {κ κ':Col} {w w':World} {cs:List CT} {p:Pl} {j:Nat} {get get':Nat->Value} {as:List A} (hs:CT.allSs (fun S=>∀b,okro κ w S b->okro κ' w' S b/\Same w w' b) cs)
  (ho:∀i,i<cs.length->∀b q,κ b=some (p.1,p.2++(j+i)::q)->κ' b=κ b/\Same w w' b) (hg:∀i,i<cs.length->get' (j+i)=get (j+i)) (h:RCL κ w cs p j get as) :
  RCL κ' w' cs p j get' as:=by
 have:=RCL_moves (f:=id) (P:=fun S=>∀b,okro κ w S b->okro κ' w' S b/\Same w w' b) (κ':=κ') (w':=w') (p':=p) (j':=j) (get':=get') (fun S hS b hb=>hS b hb) hs
  (fun i hi b q hb=>⟨by rw [(ho i hi b q hb).1];exact hb,(ho i hi b q hb).2⟩) hg h
 rwa [mapSs_id] at this
theorem pth_longer:∀(sk:Sk) (is p:List Nat) (j:Nat),sk≠[]->is≠[]->p.length<(pth p j sk is).1.length
 | [],_,_,_,h,_=>absurd rfl h
 | _::_,[],_,_,_,h=>absurd rfl h
 | (c,n)::sk,i::is,p,j,_,_=>by
  simp only [pth];have:=(pth_prefix sk is (p++[j+c]) (i*n)).length_le;simp at this;omega
theorem prefix_cons_inj {p q:List Nat} {x y:Nat} (h:p++[x] <+: p++y::q):x=y:=by
 rw [List.prefix_append_right_inj] at h;simpa using h
theorem upd_own {κ κ':Col} {w w':World} {r:Nat}:∀{sk:Sk} {is:List Nat} {cs:List CT} {p:List Nat} {j:Nat} {get:Nat->Value} {as x x':List A} {e:List CT}
  {bo:Option (Nat × Nat)} {B O:Nat},
  sk≠[]->RCL κ w cs (r,p) j get as->tagL true cs sk=some e->lookL as sk is=some x->wk w (fun k=>get (j+k)) bo sk is=some (B,O) ->
  CT.allSs (fun S=>∀b,okro κ w S b->okro κ' w' S b/\Same w w' b) cs ->
  (∀b q,κ b=some (r,q)->b≠B->(∀k,k<e.length->¬(pth p j sk is).1++[(pth p j sk is).2+k] <+: q)->κ' b=κ b/\Same w w' b) ->
  (∀{b},b<w.heap.size->b<w'.heap.size)->κ' B=κ B->(∀o y,¬(O<=o/\o<O+e.length)->w.cell? ⟨B,o,none⟩=some y->w'.cell? ⟨B,o,none⟩=some y/\w'.frozen? ⟨B,o,none⟩=w.frozen? ⟨B,o,none⟩) ->
  Wrb w' B O (O+e.length) ->
  (∀o,O=o+(pth p j sk is).2->RCL κ' w' e (r,(pth p j sk is).1) (pth p j sk is).2 (fun k=>cellD w' B (o+k)) x') ->
  RCL κ' w' cs (r,p) j get (setL as sk is x')
 | [],_,_,_,_,_,_,_,_,_,_,_,_,h,_,_,_,_,_,_,_,_,_,_,_=>absurd rfl h
 | (c,n)::sk,[],_,_,_,_,_,_,_,_,_,_,_,_,_,_,hl,_,_,_,_,_,_,_,_=>by simp [lookL] at hl
 | (c,n)::sk,i::is,cs,p,j,get,as,x,x',e,bo,B,O,hne,h,ht,hl,hwk,hS,h1,hsz,hB,hcell,hW,h3=>by
  obtain ⟨B',o',hwk',hκB,_,_⟩:=foc_own (bo:=bo) hne h ht hl
  rw [hwk] at hwk'
  simp only [Option.some.injEq,Prod.mk.injEq] at hwk'
  obtain ⟨rfl,hO⟩:=hwk'
  have hpre:=pth_prefix sk is (p++[j+c]) (i*n)
  simp only [lookL] at hl
  split at hl
  case h_2=>simp at hl
  case h_1 xs ha=>
  split at hl
  case h_2=>simp at hl
  case h_1 y hy=>
  simp only [tagL] at ht
  split at ht
  case h_3=>simp at ht
  case h_2=>simp at ht
  case h_1 k0 e0 hc=>
  split at ht
  case isFalse=>simp at ht
  case isTrue hn=>
  have hi:i<xs.length:=(List.getElem?_eq_some_iff.1 hy).1
  have hcl:c<as.length:=(List.getElem?_eq_some_iff.1 ha).1
  have hrc:=RCL_nth h hc ha
  simp only [RC] at hrc
  obtain ⟨ao,cap,hx,hle,hcase⟩:=hrc
  rcases hcase with ⟨_,rfl⟩|⟨b,o,rfl,hbs,hb,hw,he⟩
  ·omega
  simp only [setL,ha,hy]
  have hlen:=RCL_length h
  refine RCL_of_nth (by simpa using hlen) fun k ct a' hk hka => ?_
  by_cases hkc:k=c
  ·subst hkc
   rw [hc] at hk;cases hk
   rw [List.getElem?_set_self hcl] at hka
   cases hka
   have hSc:=allSs_nth hS hc
   simp only [CT.allS] at hSc
   have hbp:κ b=some (r,p++[j+k]):=by simpa [Pl.at] using hb
   -- the block of this slice
   have hrow:=RCE_nth he hy
   rw [hn] at hrow
   simp only [Nat.zero_add] at hrow
   simp only [pth] at h1 h3 hO hκB
   simp only [wk,hx,if_pos hi] at hwk
   have hn0:e0.length=n:=hn
   -- κ' and cells of this block
   have hblock:κ' b=κ b/\Wrb w' b o (o+cap*e0.length)/\(b<w.heap.size->b<w'.heap.size):=by
    by_cases hbB:b=B
    ·refine ⟨by rw [hbB];exact hB,fun o1 g1 g2 => ?_,hsz⟩;obtain ⟨⟨y1,hy1⟩,hf1⟩:=hw o1 g1 g2;subst hbB;by_cases hr:O<=o1/\o1<O+e.length
     ·exact hW o1 hr.1 hr.2
     ·have:=hcell o1 y1 hr hy1;exact ⟨⟨y1,this.1⟩,by rw [this.2];exact hf1⟩
    ·have:=h1 b (p++[j+k]) hbp hbB (fun k' _ hpr=>by
      have:=hpr.length_le
      have:=hpre.length_le
      simp at *;omega)
     exact ⟨this.1,this.2.wrb hw,this.2.1⟩
   simp only [RC]
   refine ⟨_,cap,by rw [hx];simp,by simpa using hle,.inr ⟨b,o,rfl,hblock.2.2 hbs,by rw [hblock.1];simpa [Pl.at] using hbp,hblock.2.1,?_⟩⟩
   -- its rows
   refine RCE_of_nth fun i' x1 hx1 => ?_
   simp only [Nat.zero_add]
   by_cases hii:i'=i
   ·subst hii
    rw [List.getElem?_set_self hi] at hx1
    cases hx1
    cases sk with
    | nil=>
     simp only [tagL,Option.some.injEq] at ht
     subst ht
     cases is with
     | cons=>simp [lookL] at hl
     | nil=>
      simp only [wk,Option.some.injEq,Prod.mk.injEq] at hwk
      obtain ⟨rfl,hO'⟩:=hwk
      simp only [setL]
      have:=h3 o (by simp [pth];omega)
      rw [hn0]
      simpa [pth,Pl.at] using this
    | cons s sk=>
     have his:is≠[]:=by rintro rfl;cases s;simp [lookL] at hl
     have hrow':RCL κ w e0 (r,p++[j+k]) (i'*n) (fun k=>cellD w b (o+k)) y:=by simpa [Pl.at] using hrow
     have hlong:=pth_longer (s::sk) is (p++[j+k]) (i'*n) (by simp) his
     have hbB:b≠B:=by
      rintro rfl
      rw [hbp] at hκB
      simp only [Option.some.injEq,Prod.mk.injEq,true_and] at hκB
      rw [<-hκB] at hlong;omega
     have hsame:Same w w' b:=(h1 b (p++[j+k]) hbp hbB (fun k' _ hpr=>by
      have:=hpr.length_le
      simp at this hlong;omega)).2
     have hrec:=upd_own (κ':=κ') (w':=w') (bo:=some (b,o+i'*n)) (B:=B) (O:=O) (by simp) hrow' ht hl
      (by rw [<-hwk];congr 1;funext k;rw [Nat.add_assoc]) hSc h1 hsz hB hcell hW h3
     rw [hn0]
     refine RCL_get (fun i1 g1 g2 => ?_) (by simpa [Pl.at] using hrec)
     refine hsame.cD hw.rdb (by omega) ?_
     have:=Nat.mul_le_mul_right n (show i'+1<=cap by omega)
     rw [Nat.add_mul] at this;rw [hn0] at g2 ⊢;omega
   ·have hx1':xs[i']?=some x1:=by rw [List.getElem?_set_ne (fun h=>hii h.symm)] at hx1;exact hx1
    have hi':i'<xs.length:=(List.getElem?_eq_some_iff.1 hx1').1
    have hrow1:=RCE_nth he hx1'
    simp only [Nat.zero_add] at hrow1
    refine RCL_stay hSc (fun k' hk' b' q hb' => ?_) (fun k' hk' => ?_) hrow1
    ·simp only [Pl.at] at hb'
     refine h1 b' _ hb' ?_ ?_
     ·rintro rfl
      rw [hb'] at hκB
      simp only [Option.some.injEq,Prod.mk.injEq,true_and] at hκB
      have hp2:=hpre
      rw [<-hκB] at hp2
      cases sk with
      | nil=>simp [pth] at hκB
      | cons s sk=>
       cases is with
       | nil=>cases s;simp [lookL] at hl
       | cons i2 is=>
        obtain ⟨c2,n2⟩:=s
        simp only [pth] at hκB
        have hq:=pth_prefix sk is ((p++[j+k])++[i*n+c2]) (i2*n2)
        rw [<-hκB,List.append_assoc,List.append_assoc,List.prefix_append_right_inj] at hq
        simp at hq
        have hc2:c2<n:=by
         simp only [lookL] at hl
         split at hl
         case h_2=>simp at hl
         case h_1 xs2 ha2=>
         have:=(List.getElem?_eq_some_iff.1 ha2).1
         have:=RCL_length hrow
         omega
        rw [hn0] at hk' hq
        have hq1:i'*n+k'=i*n+c2:=by omega
        rcases Nat.lt_or_gt_of_ne hii with hlt|hgt
        ·have:=Nat.mul_le_mul_right n (show i'+1<=i by omega);rw [Nat.add_mul] at this;omega
        ·have:=Nat.mul_le_mul_right n (show i+1<=i' by omega);rw [Nat.add_mul] at this;omega
     ·intro k1 hk1 hpr
      cases sk with
      | nil=>
       simp only [tagL,Option.some.injEq] at ht
       subst ht
       simp only [pth] at hpr
       have:i*n+k1=i'*n+k':=by
        rw [hn0] at hpr
        exact prefix_cons_inj hpr
       rw [hn0] at hk' hk1
       rcases Nat.lt_or_gt_of_ne hii with hlt|hgt
       ·have:=Nat.mul_le_mul_right n (show i'+1<=i by omega);rw [Nat.add_mul] at this;omega
       ·have:=Nat.mul_le_mul_right n (show i+1<=i' by omega);rw [Nat.add_mul] at this;omega
      | cons s sk=>
       cases is with
       | nil=>cases s;simp [lookL] at hl
       | cons i2 is=>
        obtain ⟨c2,n2⟩:=s
        simp only [pth] at hpr
        have hq:=pth_prefix sk is ((p++[j+k])++[i*n+c2]) (i2*n2)
        have hq2:=(hq.trans (List.prefix_append _ _)).trans hpr
        have hq1:=prefix_cons_inj hq2
        have hc2:c2<n:=by
         simp only [lookL] at hl
         split at hl
         case h_2=>simp at hl
         case h_1 xs2 ha2=>
         have:=(List.getElem?_eq_some_iff.1 ha2).1
         have:=RCL_length hrow
         omega
        rw [hn0] at hk' hq1
        rcases Nat.lt_or_gt_of_ne hii with hlt|hgt
        ·have:=Nat.mul_le_mul_right n (show i'+1<=i by omega);rw [Nat.add_mul] at this;omega
        ·have:=Nat.mul_le_mul_right n (show i+1<=i' by omega);rw [Nat.add_mul] at this;omega
    ·-- the cells of the other rows
     have hin:o+(i'*e0.length+k')<o+cap*e0.length:=by
      have:=Nat.mul_le_mul_right e0.length (show i'+1<=cap by omega)
      rw [Nat.add_mul] at this;omega
     obtain ⟨⟨y1,hy1⟩,_⟩:=hw (o+(i'*e0.length+k')) (by omega) hin
     by_cases hbB:b=B
     ·subst hbB
      have hsk:sk=[]:=by
       cases sk with
       | nil=>rfl
       | cons s sk=>
        exfalso
        have his:is≠[]:=by rintro rfl;cases s;simp [lookL] at hl
        have hlong:=pth_longer (s::sk) is (p++[j+k]) (i*n) (by simp) his
        rw [hbp] at hκB
        simp only [Option.some.injEq,Prod.mk.injEq,true_and] at hκB
        rw [<-hκB] at hlong;omega
      subst hsk
      cases is with
      | cons=>simp [lookL] at hl
      | nil=>
       simp only [wk,Option.some.injEq,Prod.mk.injEq] at hwk
       simp only [tagL,Option.some.injEq] at ht
       subst ht
       have hout:¬(O<=o+(i'*e0.length+k')/\o+(i'*e0.length+k')<O+e0.length):=by
        rw [<-hwk.2,hn0] at *
        rcases Nat.lt_or_gt_of_ne hii with hlt|hgt
        ·have:=Nat.mul_le_mul_right n (show i'+1<=i by omega);rw [Nat.add_mul] at this;omega
        ·have:=Nat.mul_le_mul_right n (show i+1<=i' by omega);rw [Nat.add_mul] at this;omega
       have:=(hcell _ y1 hout hy1).1
       simp [cellD,this,hy1]
     ·have hsame:Same w w' b:=(h1 b (p++[j+k]) hbp hbB (fun k' _ hpr=>by
       have:=hpr.length_le
       have:=hpre.length_le
       simp at *;omega)).2
      simp [cellD,(hsame.2 _ y1 hy1).1,hy1]
  ·rw [List.getElem?_set_ne (fun h=>hkc h.symm)] at hka
   have hold:=RCL_nth h hk hka
   refine RC_stay (allSs_nth hS hk) (fun b' q hb' => ?_) hold
   simp only [Pl.at,List.append_assoc,List.singleton_append] at hb'
   simp only [pth] at h1 hκB
   refine h1 b' _ hb' ?_ ?_
   ·rintro rfl
    rw [hb'] at hκB
    simp only [Option.some.injEq,Prod.mk.injEq,true_and] at hκB
    rw [<-hκB] at hpre
    have:=prefix_cons_inj hpre
    omega
   ·intro k1 _ hpr
    have:=prefix_cons_inj ((hpre.trans (List.prefix_append _ _)).trans hpr)
    omega
end Go.Fw
namespace Go.Fw
inductive AV where
 | v (as:List A) (is:List Nat)
 | p (is:List Nat)
 | n
inductive TT where
 | dead
 | val (ag:Bool) (cs:List CT)
 | alias (ag:Bool) (cs:List CT) (r:Nat) (sk:Sk) (off:Nat) (S:List Nat)
 | box (cs:List CT)
 | ptr (r:Nat) (sk:Sk) (off:Nat) (S:List Nat)
 | tup (ws:List (Bool × Nat)) (cs:List CT)
def cellsOf:Bool->Value->Option (List Value)
 | true,.agg vs=>some vs.toList
 | true,_=>none
 | false,.agg _=>none
 | false,.tuple _=>none
 | false,x=>some [x]
def tupOf:List (Bool × Nat)->List Value->Option (List Value)
 | [],[]=>some []
 | (g,n)::ws,x::xs=>match cellsOf g x,tupOf ws xs with
  | some a,some b=>if a.length=n then some (a++b) else none
  | _,_=>none
 | _,_=>none
def rg (w:World) (tag:TT) (x:Value) (k:Nat):Value:=
 match tag,x with
 | .val ag _,x=>((cellsOf ag x).getD []).getD k undef
 | .box _,.pointer (some a)=>cellD w a.block k
 | _,_=>undef
def rb (tag:TT) (x:Value):Option Nat:=
 match tag,x with
 | .box _,.pointer (some a)=>some a.block
 | _,_=>none
def pcell (w:World) (g:Nat->Value) (sk:Sk) (is:List Nat):Option (Nat->Value):=
 match sk,is with
 | [],[]=>some g
 | [],_::_=>none
 | s::sk,is=>(wk w g none (s::sk) is).map fun bo=>fun k=>cellD w bo.1 (bo.2+k)
def paddr (w:World) (g:Nat->Value) (bo:Option Nat) (sk:Sk) (is:List Nat):Option (Nat × Nat):=
 wk w g (bo.map fun b=>(b,0)) sk is
def PO (κ:Col) (w:World) (S:List Nat):(Nat->Value)->Sk->List Nat->Prop
 | get,(c,n)::sk,i::is=>match get c with
  | .slice (some a) _ _=>okro κ w S a.block/\PO κ w S (fun k=>cellD w a.block (a.off+i*n+k)) sk is
  | _=>True
 | _,_,_=>True
def Agr (g g':Nat->Value):Prop:=∀k,g k≠undef->g' k=g k
theorem cellD_ne {w:World} {b o:Nat} (h:cellD w b o≠undef):∃x,w.cell? ⟨b,o,none⟩=some x/\cellD w b o=x:=by
 unfold cellD at h ⊢;cases hc:w.cell? ⟨b,o,none⟩ with
 | none=>simp [hc] at h
 | some x=>exact ⟨x,rfl,rfl⟩
theorem Same.agr {w w':World} {b:Nat} (h:Same w w' b) (f:Nat->Nat):Agr (fun k=>cellD w b (f k)) (fun k=>cellD w' b (f k)):=by
 intro k hk;obtain ⟨x,hx,_⟩:=cellD_ne hk;simp [cellD,hx,(h.2 _ x hx).1]
theorem wk_stay {κ κ':Col} {w w':World} {S:List Nat} (hro:∀b,okro κ w S b->okro κ' w' S b/\Same w w' b) :
  ∀{sk:Sk} {is:List Nat} {g g':Nat->Value} {bo:Option (Nat × Nat)} {BO:Nat × Nat},Agr g g'->PO κ w S g sk is->wk w g bo sk is=some BO ->
  wk w' g' bo sk is=some BO/\PO κ' w' S g' sk is
 | [],[],_,_,_,_,_,_,h=>by simp only [wk,PO] at h ⊢;exact ⟨h,trivial⟩
 | [],_::_,_,_,_,_,_,_,h=>by simp [wk] at h
 | _::_,[],_,_,_,_,_,_,h=>by simp [wk] at h
 | (c,n)::sk,i::is,g,g',bo,BO,hg,hp,h=>by
  simp only [wk] at h;split at h;case h_2=>simp at h
  case h_1 b o len cap hx=>
  split at h;case isFalse=>simp at h
  case isTrue hi=>
  have hx':g' c = .slice (some ⟨b,o,none⟩) len cap:=by rw [hg c (by rw [hx];simp [undef]),hx]
  simp only [PO,hx] at hp;obtain ⟨hb',hsame⟩:=hro b hp.1;have hrec:=wk_stay hro (g':=fun k=>cellD w' b (o+i*n+k)) (hsame.agr fun k=>o+i*n+k) hp.2 h;simp only [wk,PO,hx',if_pos hi];exact ⟨hrec.1,hb',hrec.2⟩
theorem wk_okro {κ:Col} {w:World} {S:List Nat}:∀{sk:Sk} {is:List Nat} {g:Nat->Value} {bo:Option (Nat × Nat)} {B O:Nat},sk≠[]->PO κ w S g sk is->wk w g bo sk is=some (B,O)->okro κ w S B
 | [],_,_,_,_,_,h,_,_=>absurd rfl h
 | _::_,[],_,_,_,_,_,_,h=>by simp [wk] at h
 | (c,n)::sk,i::is,g,bo,B,O,_,hp,h=>by
  simp only [wk] at h;split at h;case h_2=>simp at h
  case h_1 b o len cap hx=>
  split at h;case isFalse=>simp at h
  case isTrue hi=>
  simp only [PO,hx] at hp;cases sk with
  | nil=>
   cases is with
   | nil=>simp only [wk,Option.some.injEq,Prod.mk.injEq] at h;rw [<-h.1];exact hp.1
   | cons=>simp [wk] at h
  | cons s sk=>exact wk_okro (by simp) hp.2 h
mutual
def CT.men (M:List Nat):CT->Bool
 | .d=>false
 | .sl (.ro S) e=>S.any (M.contains ·) || CT.mens M e
 | .sl _ e=>CT.mens M e
def CT.mens (M:List Nat):List CT->Bool
 | []=>false
 | c::cs=>c.men M || CT.mens M cs
end
def killC (M:List Nat) (c:CT):CT:=
 if c.men M then match c with
  | .sl _ e=>.sl .dead e
  | .d=>.d
 else c
def meets (S M:List Nat):Bool:=S.any (M.contains ·)
def TT.kill (mods M:List Nat):TT->TT
 | .dead=>.dead
 | .val ag cs=>.val ag (cs.map (killC M))
 | .box cs=>.box (cs.map (killC M))
 | .tup ws cs=>.tup ws (cs.map (killC M))
 | .alias ag cs r sk off S=>if mods.contains r || meets S M || CT.mens M cs then .dead else .alias ag cs r sk off S
 | .ptr r sk off S=>if mods.contains r || meets S M then .dead else .ptr r sk off S
theorem meets_false {S M:List Nat} (h:meets S M=false):∀m,m∈M->m∉S:=by
 intro m hm hs;simp only [meets,List.any_eq_false] at h;exact h m hs (by simpa using hm)
mutual
theorem men_allS {M:List Nat} {P:List Nat->Prop} (hP:∀S,(∀m,m∈M->m∉S)->P S):∀{c:CT},c.men M=false->c.allS P
 | .d,_=>by simp [CT.allS]
 | .sl (.ro S) e,h=>by
  simp only [CT.men,Bool.or_eq_false_iff] at h;simp only [CT.allS];exact ⟨hP S (meets_false h.1),mens_allSs hP h.2⟩
 | .sl (.own _) e,h=>by simp only [CT.men] at h;simp only [CT.allS];exact mens_allSs hP h
 | .sl .dead e,h=>by simp only [CT.men] at h;simp only [CT.allS];exact mens_allSs hP h
theorem mens_allSs {M:List Nat} {P:List Nat->Prop} (hP:∀S,(∀m,m∈M->m∉S)->P S):∀{cs:List CT},CT.mens M cs=false->CT.allSs P cs
 | [],_=>by simp [CT.allSs]
 | c::cs,h=>by
  simp only [CT.mens,Bool.or_eq_false_iff] at h;simp only [CT.allSs];exact ⟨men_allS hP h.1,mens_allSs hP h.2⟩
end
section stay
variable {κ κ':Col} {w w':World} {mods M:List Nat}
theorem RCL_kill {p:Pl} {get get':Nat->Value} (hro:∀S,(∀m,m∈M->m∉S)->∀b,okro κ w S b->okro κ' w' S b/\Same w w' b)
  (ho:∀b q,κ b=some (p.1,q)->κ' b=κ b/\Same w w' b) {cs:List CT} {j:Nat} {as:List A}
  (hg:∀i,i<cs.length->get' (j+i)=get (j+i)) (h:RCL κ w cs p j get as):RCL κ' w' (cs.map (killC M)) p j get' as:=by
 refine RCL_of_nth (by rw [List.length_map];exact RCL_length h) fun k c a hc ha => ?_
 rw [List.getElem?_map] at hc;cases hc0:cs[k]? with
 | none=>simp [hc0] at hc
 | some c0=>
  simp only [hc0,Option.map_some,Option.some.injEq] at hc;subst hc;have hk:=(List.getElem?_eq_some_iff.1 hc0).1;have h0:=RCL_nth h hc0 ha;unfold killC;split
  ·cases c0 with
   | d=>rename_i hm;simp [CT.men] at hm
   | sl m e=>simp only [RC]
  ·rename_i hm;rw [hg k hk];refine RC_stay (men_allS (fun S hS=>hro S hS) (by simpa using hm)) (fun b q hb=>ho b _ hb) h0
end stay
def Pins (ac:Nat->Nat->Value) (cs:List CT) (get:Nat->Value):Prop:=∀k j c e,cs[k]?=some (.sl (.own (some (j,c))) e)->get k=ac j c
theorem Pins_kill {ac:Nat->Nat->Value} {cs:List CT} {get get':Nat->Value} {M:List Nat} (hg:∀i,i<cs.length->get' i=get i) (h:Pins ac cs get):Pins ac (cs.map (killC M)) get':=by
 intro k j c e hc;rw [List.getElem?_map] at hc;cases hc0:cs[k]? with
 | none=>simp [hc0] at hc
 | some c0=>
  simp only [hc0,Option.map_some,Option.some.injEq] at hc;have hk:=(List.getElem?_eq_some_iff.1 hc0).1;rw [hg k hk];refine h k j c e ?_;rw [hc0];unfold killC at hc;split at hc
  ·cases c0<;>simp at hc
  ·rw [hc]
def TR (ac:Nat->Nat->Value) (κ:Col) (w:World) (tg:Nat->TT) (sv:Nat->AV) (tm:Nat->Value) (t:Nat):TT->Prop
 | .dead=>True
 | .val ag cs=>∃as vs,sv t = .v as []/\cellsOf ag (tm t)=some vs/\vs.length=cs.length/\Pins ac cs (fun k=>vs.getD k undef)/\RCL κ w cs (t,[]) 0 (fun k=>vs.getD k undef) as
 | .alias ag cs r sk off S=>∃as is vs g ra row,sv t = .v as is/\cellsOf ag (tm t)=some vs/\vs.length=cs.length/\CT.lives cs=true/\RCL κ w cs (t,[]) 0 (fun k=>vs.getD k undef) as /\
   pcell w (rg w (tg r) (tm r)) sk is=some g/\PO κ w S (rg w (tg r) (tm r)) sk is/\(∀b,rb (tg r) (tm r)=some b->κ b=some (r,[]))/\(sk≠[]->r∈S) /\
   (∀k,k<cs.length->g (off+k)=vs.getD k undef/\vs.getD k undef≠undef)/\sv r = .v ra []/\lookL ra sk is=some row/\as=(row.drop off).take cs.length
 | .box cs=>∃as b,sv t = .v as []/\tm t = .pointer (some ⟨b,0,none⟩)/\b<w.heap.size/\κ b=some (t,[])/\Wrb w b 0 cs.length/\Pins ac cs (cellD w b)/\RCL κ w cs (t,[]) 0 (cellD w b) as
 | .ptr r sk off S=>∃is B O,sv t = .p is/\paddr w (rg w (tg r) (tm r)) (rb (tg r) (tm r)) sk is=some (B,O)/\PO κ w S (rg w (tg r) (tm r)) sk is/\(∀b,rb (tg r) (tm r)=some b->κ b=some (r,[])) /\
   tm t = .pointer (some ⟨B,O+off,none⟩)
 | .tup ws cs=>∃as xs vs,sv t = .v as []/\tm t = .tuple xs/\tupOf ws xs.toList=some vs/\vs.length=cs.length/\RCL κ w cs (t,[]) 0 (fun k=>vs.getD k undef) as
theorem rg_killed (w:World) (mods M:List Nat) (tag:TT) (x:Value):rg w (tag.kill mods M) x=rg w tag x/\rb (tag.kill mods M) x=rb tag x:=by
 cases tag with
 | alias ag cs r sk off S=>simp only [TT.kill];split<;>exact ⟨by funext k;simp [rg],by simp [rb]⟩
 | ptr r sk off S=>simp only [TT.kill];split<;>exact ⟨by funext k;simp [rg],by simp [rb]⟩
 | _=>cases x with
  | pointer a=>cases a<;>exact ⟨rfl,rfl⟩
  | _=>exact ⟨rfl,rfl⟩
theorem killC_same {M:List Nat}:∀{cs:List CT},CT.mens M cs=false->cs.map (killC M)=cs
 | [],_=>rfl
 | c::cs,h=>by
  simp only [CT.mens,Bool.or_eq_false_iff] at h;simp [killC,h.1,killC_same h.2]
theorem rg_agr {w w':World} {tag:TT} {x:Value} (h:∀b,rb tag x=some b->Same w w' b):Agr (rg w tag x) (rg w' tag x):=by
 intro k hk;cases tag with
 | box cs=>
  cases x with
  | pointer a=>
   cases a with
   | none=>rfl
   | some a=>
    have:=(h a.block rfl).agr (fun k=>k);exact this k (by simpa [rg] using hk)
  | _=>rfl
 | _=>rfl
section stay
variable {κ κ':Col} {w w':World} {mods M:List Nat} {tg tg':Nat->TT} {sv sv':Nat->AV} {tm tm':Nat->Value} {ac:Nat->Nat->Value}
theorem TR_stay (hro:∀S,(∀m,m∈M->m∉S)->∀b,okro κ w S b->okro κ' w' S b/\Same w w' b)
  (ho:∀b r q,r∉mods->κ b=some (r,q)->κ' b=κ b/\Same w w' b)
  (htg:∀r,r∉mods->∀x,rg w' (tg' r) x=rg w' (tg r) x/\rb (tg' r) x=rb (tg r) x) (hsv:∀r,r∉mods->sv' r=sv r) (htm:∀r,r∉mods->tm' r=tm r)
  {t:Nat} (ht:t∉mods) (h:TR ac κ w tg sv tm t (tg t)):TR ac κ' w' tg' sv' tm' t ((tg t).kill mods M):=by
 have hsvt:=hsv t ht;have htmt:=htm t ht;cases hT:tg t with
 | dead=>simp [TT.kill,TR]
 | val ag cs=>
  rw [hT] at h;simp only [TT.kill,TR,hsvt,htmt] at h ⊢;obtain ⟨as,vs,h1,h2,h3,hp,h4⟩:=h;exact ⟨as,vs,h1,h2,by simpa using h3,Pins_kill (fun _ _=>rfl) hp,RCL_kill hro (fun b q hb=>ho b t q ht hb) (fun _ _=>rfl) h4⟩
 | tup ws cs=>
  rw [hT] at h;simp only [TT.kill,TR,hsvt,htmt] at h ⊢;obtain ⟨as,xs,vs,h1,h2,h3,h4,h5⟩:=h;exact ⟨as,xs,vs,h1,h2,h3,by simpa using h4,RCL_kill hro (fun b q hb=>ho b t q ht hb) (fun _ _=>rfl) h5⟩
 | box cs=>
  rw [hT] at h;simp only [TT.kill,TR,hsvt,htmt] at h ⊢;obtain ⟨as,b,h1,h2,hb,h3,h4,hp,h5⟩:=h;obtain ⟨hk,hs⟩:=ho b t [] ht h3;have hc:∀i,i<cs.length->cellD w' b i=cellD w b i:=fun i hi=>hs.cD h4.rdb (Nat.zero_le _) hi
  exact ⟨as,b,h1,h2,hs.1 hb,by rw [hk];exact h3,by rw [List.length_map];exact hs.wrb h4,Pins_kill hc hp,RCL_kill hro (fun b q hb=>ho b t q ht hb) (fun i hi=>by simpa using hc i hi) h5⟩
 | alias ag cs r sk off S=>
  rw [hT] at h;simp only [TT.kill];split
  ·simp [TR]
  ·rename_i hk;simp only [Bool.or_eq_true,not_or,Bool.not_eq_true] at hk;obtain ⟨⟨hr,hS⟩,hm⟩:=hk;have hr':r∉mods:=by simpa using hr
   have hroS:=hro S (meets_false hS);simp only [TR,hsvt,htmt,htm r hr',hsv r hr',(htg r hr' (tm r)).2,show rg w' (tg' r) (tm r)=rg w' (tg r) (tm r) from (htg r hr' (tm r)).1] at h ⊢;obtain ⟨as,is,vs,g,ra,row,h1,h2,h3,hl,h4,h5,h6,h7,h8,h9,h10,h11,h12⟩:=h;have hagr:=rg_agr (tag:=tg r) (x:=tm r) (fun b hb=>(ho b r [] hr' (h7 b hb)).2);have h4':RCL κ' w' cs (t,[]) 0 (fun k=>vs.getD k undef) as:=by
    have:=RCL_kill (κ':=κ') (w':=w') (M:=M) hro (fun b q hb=>ho b t q ht hb) (fun _ _=>rfl) h4;rwa [killC_same hm] at this
   cases sk with
   | nil=>
    cases is with
    | cons=>simp [pcell] at h5
    | nil=>
     simp only [pcell,Option.some.injEq] at h5;subst h5;exact ⟨as,[],vs,_,ra,row,h1,h2,h3,hl,h4',rfl,by simp [PO],fun b hb=>by rw [(ho b r [] hr' (h7 b hb)).1];exact h7 b hb,h8,
      fun k hk=>⟨by rw [hagr _ (by rw [(h9 k hk).1];exact (h9 k hk).2)];exact (h9 k hk).1,(h9 k hk).2⟩,h10,h11,h12⟩
   | cons s sk=>
    simp only [pcell,Option.map_eq_some_iff] at h5;obtain ⟨BO,h5,rfl⟩:=h5;have hw:=wk_stay hroS hagr h6 h5;have hB:okro κ w S BO.1:=by
     obtain ⟨B,O⟩:=BO;exact wk_okro (by simp) h6 h5
    have hcell:=((hroS BO.1 hB).2).agr (fun k=>BO.2+k);refine ⟨as,is,vs,fun k=>cellD w' BO.1 (BO.2+k),ra,row,h1,h2,h3,hl,h4',by simp only [pcell,hw.1,Option.map_some],hw.2,fun b hb=>by rw [(ho b r [] hr' (h7 b hb)).1];exact h7 b hb,h8,
     fun k hk=>⟨?_,(h9 k hk).2⟩,h10,h11,h12⟩
    have:=hcell (off+k) (by rw [(h9 k hk).1];exact (h9 k hk).2);simp only at this ⊢;rw [this];exact (h9 k hk).1
 | ptr r sk off S=>
  rw [hT] at h;simp only [TT.kill];split
  ·simp [TR]
  ·rename_i hk;simp only [Bool.or_eq_true,not_or,Bool.not_eq_true] at hk;obtain ⟨hr,hS⟩:=hk;have hr':r∉mods:=by simpa using hr
   have hroS:=hro S (meets_false hS);simp only [TR,hsvt,htmt,htm r hr',(htg r hr' (tm r)).2,show rg w' (tg' r) (tm r)=rg w' (tg r) (tm r) from (htg r hr' (tm r)).1] at h ⊢;obtain ⟨is,B,O,h1,h2,h3,h4,h5⟩:=h;have hagr:=rg_agr (tag:=tg r) (x:=tm r) (fun b hb=>(ho b r [] hr' (h4 b hb)).2);have:=wk_stay hroS hagr h3 h2;exact ⟨is,B,O,h1,this.1,this.2,fun b hb=>by rw [(ho b r [] hr' (h4 b hb)).1];exact h4 b hb,h5⟩
end stay
end Go.Fw
namespace Go.Fw
structure Fr (κ0:Col) (w0:World) (κ:Col) (w:World):Prop where
 size:w0.heap.size<=w.heap.size
 kept:∀b,b<w0.heap.size->κ0 b=none->κ b=none/\w.heap[b]?=w0.heap[b]?
 os:w.os=w0.os
 out:w.output=w0.output
 tape:w.tape=w0.tape
def FB:Nat:=1000000000
theorem Same.trans {w w1 w2:World} {b:Nat} (h:Same w w1 b) (h':Same w1 w2 b):Same w w2 b:=
 ⟨fun hb=>h'.1 (h.1 hb),fun o x hx=>⟨(h'.2 o x (h.2 o x hx).1).1,by rw [(h'.2 o x (h.2 o x hx).1).2,(h.2 o x hx).2]⟩⟩
structure R (ac:Nat->Nat->Value) (κ0:Col) (w0:World) (κ:Col) (w:World) (N:Nat) (tg:Nat->TT) (sv:Nat->AV) (tm:Nat->Value):Prop where
 tr:∀t,TR ac κ w tg sv tm t (tg t)
 out:∀t,N<=t->tg t = .dead
 col:∀b,w.heap.size<=b->κ b=none
 fr:Fr κ0 w0 κ w
 fb:∀b q,κ0 b=some (FB,q)->κ b=some (FB,q)/\Same w0 w b
 nle:N<=FB
def upd {α:Type} (f:Nat->α) (d:Nat) (v:α) (t:Nat):α:=if t=d then v else f t
theorem upd_self {α:Type} (f:Nat->α) (d:Nat) (v:α):upd f d v d=v:=by simp [upd]
theorem upd_ne {α:Type} (f:Nat->α) (d:Nat) (v:α) {t:Nat} (h:t≠d):upd f d v t=f t:=by simp [upd,h]
section
variable {ac:Nat->Nat->Value} {κ0 κ κ':Col} {w0 w w':World} {N:Nat} {tg tg':Nat->TT} {sv sv':Nat->AV} {tm tm':Nat->Value} {mods M:List Nat}
theorem R_step (h:R ac κ0 w0 κ w N tg sv tm) (hfb:FB∉mods)
  (hro:∀S,(∀m,m∈M->m∉S)->∀b,okro κ w S b->okro κ' w' S b/\Same w w' b)
  (ho:∀b r q,r∉mods->κ b=some (r,q)->κ' b=κ b/\Same w w' b)
  (htg:∀r,r∉mods->tg' r=(tg r).kill mods M\/(∀x,rg w' (tg' r) x=rg w' (tg r) x/\rb (tg' r) x=rb (tg r) x)/\TR ac κ' w' tg' sv' tm' r (tg' r))
  (hsv:∀r,r∉mods->sv' r=sv r) (htm:∀r,r∉mods->tm' r=tm r)
  (hm:∀t,t∈mods->TR ac κ' w' tg' sv' tm' t (tg' t)) (hout:∀t,N<=t->tg' t = .dead)
  (hcol:∀b,w'.heap.size<=b->κ' b=none) (hfr:Fr κ0 w0 κ' w'):R ac κ0 w0 κ' w' N tg' sv' tm':=by
 refine ⟨fun t => ?_,hout,hcol,hfr,fun b q hb => ?_,h.nle⟩;case refine_2=>
  obtain ⟨h1,h2⟩:=h.fb b q hb
  obtain ⟨h3,h4⟩:=ho b FB q hfb h1
  exact ⟨by rw [h3];exact h1,h2.trans h4⟩
 by_cases ht:t∈mods
 ·exact hm t ht
 ·rcases htg t ht with h1|h1
  ·rw [h1];refine TR_stay hro ho (fun r hr x => ?_) hsv htm ht (h.tr t);rcases htg r hr with h2|h2
   ·rw [h2];exact rg_killed w' mods M (tg r) x
   ·exact h2.1 x
  ·exact h1.2
end
theorem killC_nil (c:CT):killC [] c=c:=by
 have h:c.men []=false:=by
  have key:(∀c:CT,c.men []=false)/\∀cs:List CT,CT.mens [] cs=false:=by
   refine ⟨fun c => ?_,fun cs => ?_⟩
   ·exact men_nil c
   ·exact mens_nil cs
  exact key.1 c
 simp [killC,h]
where
 men_nil:∀c:CT,c.men []=false
  | .d=>by simp [CT.men]
  | .sl (.ro S) e=>by simp [CT.men,mens_nil e]
  | .sl (.own _) e=>by simp [CT.men,mens_nil e]
  | .sl .dead e=>by simp [CT.men,mens_nil e]
 mens_nil:∀cs:List CT,CT.mens [] cs=false
  | []=>by simp [CT.mens]
  | c::cs=>by simp [CT.mens,men_nil c,mens_nil cs]
def recol (κ:Col) (F:Pl->Option Pl) (nb:Option (Nat × Pl)):Col:=fun b=>
 match nb with
 | some (b',p)=>if b=b' then some p else (κ b).bind F
 | none=>(κ b).bind F
section
variable {ac:Nat->Nat->Value} {κ0 κ:Col} {w0 w w':World} {N:Nat} {tg tg':Nat->TT} {sv sv':Nat->AV} {tm tm':Nat->Value} {mods M:List Nat}
structure Grows (w w':World):Prop where
 size:w.heap.size<=w'.heap.size
 old:∀b,b<w.heap.size->w'.heap[b]?=w.heap[b]?
 os:w'.os=w.os
 out:w'.output=w.output
 tape:w'.tape=w.tape
theorem Grows.refl (w:World):Grows w w:=⟨Nat.le_refl _,fun _ _=>rfl,rfl,rfl,rfl⟩
theorem cell?_none {w:World} {b o:Nat} (h:w.heap.size<=b):w.cell? ⟨b,o,none⟩=none:=by
 simp [World.cell?,Array.getElem?_eq_none h]
theorem Grows.same {w w':World} (h:Grows w w') (b:Nat):Same w w' b:=by
 refine ⟨fun hb=>Nat.lt_of_lt_of_le hb h.size,fun o x hx => ?_⟩;by_cases hb:b<w.heap.size
 ·have:=h.old b hb;simp only [World.cell?,World.frozen?,this] at hx ⊢;exact ⟨hx,trivial⟩
 ·rw [cell?_none (by omega)] at hx;cases hx
theorem Fr.step {w w':World} {κ κ':Col} {κ0:Col} {w0:World} (h:Fr κ0 w0 κ w) (hg:Grows w w') (hk:∀b,b<w.heap.size->κ b=none->κ' b=none):Fr κ0 w0 κ' w':=
 ⟨Nat.le_trans h.size hg.size,fun b hb h0=>⟨hk b (Nat.lt_of_lt_of_le hb h.size) (h.kept b hb h0).1,by rw [hg.old b (Nat.lt_of_lt_of_le hb h.size)];exact (h.kept b hb h0).2⟩,
  by rw [hg.os,h.os],by rw [hg.out,h.out],by rw [hg.tape,h.tape]⟩
theorem R_mv (h:R ac κ0 w0 κ w N tg sv tm) (hfb:FB∉mods) {F:Pl->Option Pl} {nb:Option (Nat × Pl)} (hw:Grows w w')
  (hF:∀r q,r∉mods->F (r,q)=some (r,q)) (hM:∀r q p,F (r,q)=some p->r∉M->p=(r,q))
  (hnb:∀b p,nb=some (b,p)->w.heap.size<=b/\b<w'.heap.size)
  (htg:∀r,r∉mods->tg' r=(tg r).kill mods M) (hsv:∀r,r∉mods->sv' r=sv r) (htm:∀r,r∉mods->tm' r=tm r)
  (hm:∀t,t∈mods->TR ac (recol κ F nb) w' tg' sv' tm' t (tg' t)) (hout:∀t,N<=t->tg' t = .dead):R ac κ0 w0 (recol κ F nb) w' N tg' sv' tm':=by
 have hne:∀b,b<w.heap.size->recol κ F nb b=(κ b).bind F:=by
  intro b hb;unfold recol;cases nb with
  | none=>rfl
  | some q=>
   obtain ⟨b',p⟩:=q;have:=hnb b' p rfl;simp only;rw [if_neg (by omega)]
 have hcol:∀b p,κ b=some p->b<w.heap.size:=fun b p hb=>by
  apply Nat.lt_of_not_le;intro hle;rw [h.col b hle] at hb;cases hb
 refine R_step (mods:=mods) (M:=M) h hfb (fun S hS b hb=>⟨⟨Nat.lt_of_lt_of_le hb.1 hw.size,fun r p hr => ?_⟩,hw.same b⟩) (fun b r q hr hb=>⟨?_,hw.same b⟩) (fun r hr=>.inl (htg r hr)) hsv htm hm hout (fun b hb => ?_) ?_
 ·rw [hne b hb.1] at hr;cases hk:κ b with
  | none=>simp [hk] at hr
  | some p0=>
   obtain ⟨r0,q0⟩:=p0;simp only [hk,Option.bind_some] at hr;by_cases hrM:r0∈M
   ·exact absurd (hb.2 r0 q0 hk).1 (hS r0 hrM)
   ·have:=hM r0 q0 _ hr hrM;cases this;exact hb.2 _ _ hk
 ·rw [hne b (hcol b _ hb),hb];simp [hF r q hr]
 ·have hb':w.heap.size<=b:=Nat.le_trans hw.size hb;unfold recol;cases nb with
  | none=>simp [h.col b hb']
  | some q=>
   obtain ⟨b',p⟩:=q;have:=hnb b' p rfl;simp only;rw [if_neg (by omega)];simp [h.col b hb']
 ·exact h.fr.step hw fun b hb hk=>by rw [hne b hb,hk];rfl
end
end Go.Fw
namespace Go.Fw
theorem run_pure {α:Type} (a:α) (P:Program) (w:World):(pure a:Sem α).run P w = .ok a w:=rfl
theorem run_bind {α β:Type} (e:Sem α) (f:α->Sem β) (P:Program):∀w:World,(e >>= f).run P w=match e.run P w with
  | .ok a w'=>(f a).run P w'
  | .halt h w'=>.halt h w':=by
 show ∀w,(e.bind f).run P w=_;induction e with
 | pure a=>intro w;rfl
 | load m a k ih=>
  intro w;simp only [Sem.bind,Sem.run]
  (repeat' split)<;>simp_all
 | store m a v k ih=>
  intro w;cases v<;>simp only [Sem.bind,Sem.run]<;>((repeat' split)<;>simp_all)
 | new o k ih=>intro w;simp only [Sem.bind,Sem.run];exact ih _ _
 | shape r k ih=>intro w;simp only [Sem.bind,Sem.run];exact ih _ _
 | freeze a n k ih=>intro w;simp only [Sem.bind,Sem.run];exact ih _
 | frozen a k ih=>intro w;simp only [Sem.bind,Sem.run];exact ih _ _
 | getObj r k ih=>
  intro w;simp only [Sem.bind,Sem.run];split<;>simp_all
 | setObj r o k ih=>
  intro w;simp only [Sem.bind,Sem.run];split<;>simp_all
 | choose q k ih=>
  intro w;simp only [Sem.bind,Sem.run];split<;>simp_all
 | sys c k ih=>intro w;simp only [Sem.bind,Sem.run];exact ih _ _
 | program k ih=>intro w;simp only [Sem.bind,Sem.run];exact ih _ _
 | mark m k ih=>intro w;simp only [Sem.bind,Sem.run];exact ih _
 | halt h=>intro w;rfl
theorem run_ok {α β:Type} {e:Sem α} {f:α->Sem β} {P:Program} {w w':World} {a:α} (h:e.run P w = .ok a w'):(e >>= f).run P w=(f a).run P w':=by
 rw [run_bind,h]
theorem run_underlying {P:Program} {t:TypeId} {d:TypeDesc} (h:P.underlying t=some d) (w:World):(underlying t).run P w = .ok d w:=by
 simp [underlying,program,bind,Sem.bind,Sem.run,h,pure]
theorem run_typeInfo {P:Program} {t:TypeId} {i:TypeInfo} (h:P.info? t=some i) (w:World):(typeInfo t).run P w = .ok i w:=by
 simp [typeInfo,program,bind,Sem.bind,Sem.run,h,pure]
theorem run_sizeOf {P:Program} {t:TypeId} {i:TypeInfo} (h:P.info? t=some i) (w:World):(sizeOf t).run P w = .ok i.size w:=by
 unfold sizeOf;rw [run_ok (run_typeInfo h w)];rfl
theorem run_zero {P:Program} {t:TypeId} {i:TypeInfo} {z:Value} (h:P.info? t=some i) (hz:i.zero=some z) (w:World):(zeroValue t).run P w = .ok z w:=by
 unfold zeroValue;rw [run_ok (run_typeInfo h w)];simp [hz,pure,Sem.run]
def aggT (P:Program) (t:TypeId):Option Bool:=
 match P.underlying t with
 | some (.struct _)=>some true
 | some (.array _ _)=>none
 | some _=>some false
 | none=>none
theorem run_isAgg {P:Program} {t:TypeId} {g:Bool} (h:aggT P t=some g) (w:World):(isAgg t).run P w = .ok g w:=by
 unfold aggT at h;unfold isAgg;cases hu:P.underlying t with
 | none=>simp [hu] at h
 | some d=>
  rw [run_ok (run_underlying hu w)];cases d<;>simp [hu] at h<;>subst h<;>rfl
def pushW (w:World) (cells:Array Value) (t:TypeId):World:={ w with heap:=w.heap.push (.cells cells t) }
theorem pushW_grows (w:World) (cells:Array Value) (t:TypeId):Grows w (pushW w cells t):=
 ⟨by simp [pushW],fun b hb=>by simp only [pushW];rw [Array.getElem?_push_lt hb,Array.getElem?_eq_getElem hb],rfl,rfl,rfl⟩
theorem pushW_cell (w:World) (cells:Array Value) (t:TypeId) (o:Nat):(pushW w cells t).cell? ⟨w.heap.size,o,none⟩=cells[o]?:=by
 have:(pushW w cells t).heap[w.heap.size]?=some (.cells cells t):=Array.getElem?_push_size;unfold World.cell?;simp only [this];rfl
theorem pushW_wrb (w:World) (cells:Array Value) (t:TypeId) (lo hi:Nat) (h:hi<=cells.size):Wrb (pushW w cells t) w.heap.size lo hi:=by
 intro o _ h2;refine ⟨⟨cells[o]'(by omega),by rw [pushW_cell];simp [show o<cells.size by omega]⟩,?_⟩;have:(pushW w cells t).heap[w.heap.size]?=some (.cells cells t):=Array.getElem?_push_size;unfold World.frozen?;simp only [this];simp
theorem pushW_cellD (w:World) (cells:Array Value) (t:TypeId) (o:Nat):cellD (pushW w cells t) w.heap.size o=cells.toList.getD o undef:=by
 simp [cellD,pushW_cell,List.getD_eq_getElem?_getD]
theorem run_newRow {P:Program} (elem:TypeId) (cells:Array Value) (w:World):(newRow elem cells).run P w = .ok ⟨w.heap.size,0,none⟩ (pushW w cells elem):=by
 simp [newRow,newObj,bind,Sem.bind,Sem.run,pure,pushW]
theorem run_box {P:Program} (elem:TypeId) (v:Value) (w:World):(Instr.box elem v).run P w = .ok (.pointer (some ⟨w.heap.size,0,none⟩)) (pushW w v.cells elem):=by
 unfold Instr.box newVar;rw [run_ok (run_newRow elem v.cells w)];rfl
theorem run_alloc {P:Program} {elem:TypeId} {i:TypeInfo} {z:Value} (h:P.info? elem=some i) (hz:i.zero=some z) (w:World) :
  (Instr.alloc elem true (.tuple #[])).run P w = .ok (.pointer (some ⟨w.heap.size,0,none⟩)) (pushW w z.cells elem):=by
 unfold Instr.alloc;rw [run_ok (run_zero h hz w)];simp only;unfold newVar;rw [run_ok (run_newRow elem z.cells w)];rfl
theorem add_off (b o k:Nat):(Addr.add ⟨b,o,none⟩ k)=⟨b,o+k,none⟩:=by
 unfold Addr.add;split
 ·simp_all
 ·rfl
theorem run_loadCell {P:Program} {a:Addr} {x:Value} {w:World} (h:w.cell? a=some x):(load a).run P w = .ok x w:=by
 simp [load,Sem.run,h]
theorem run_loadCellsFrom {P:Program} {b o:Nat} {w:World}:∀(n i:Nat) (acc:Array Value),Rdb w b (o+i) (o+i+n) ->
  (loadCellsFrom ⟨b,o,none⟩ i n acc).run P w = .ok (acc++((List.range n).map fun k=>cellD w b (o+i+k)).toArray) w
 | 0,i,acc,_=>by simp [loadCellsFrom,pure,Sem.run]
 | n+1,i,acc,h=>by
  obtain ⟨x,hx⟩:=h (o+i) (Nat.le_refl _) (by omega);unfold loadCellsFrom;rw [add_off,run_ok (run_loadCell hx),run_loadCellsFrom n (i+1) _ (fun o' h1 h2=>h o' (by omega) (by omega))];congr 1;have:cellD w b (o+i)=x:=by simp [cellD,hx]
  apply Array.ext';simp only [Array.toList_append,Array.toList_push,List.range_succ_eq_map,List.map_cons,List.map_map,Nat.add_zero,this,List.append_assoc,List.singleton_append];congr 2;apply List.map_congr_left;intro k _;simp only [Function.comp];congr 1;omega
theorem run_loadCells {P:Program} {b o n:Nat} {w:World} (h:Rdb w b o (o+n)) :
  (loadCells ⟨b,o,none⟩ n).run P w = .ok ((List.range n).map fun k=>cellD w b (o+k)).toArray w:=by
 unfold loadCells;rw [run_loadCellsFrom n 0 #[] (by simpa using h)];simp
theorem run_loadAt {P:Program} {t:TypeId} {i:TypeInfo} {g:Bool} {b o:Nat} {w:World} (hi:P.info? t=some i) (hg:aggT P t=some g) (h1:g=false->i.size=1)
  (h:Rdb w b o (o+i.size)):∃v,(Instr.loadAt t (.pointer (some ⟨b,o,none⟩))).run P w = .ok v w /\
   (g=true->v = .agg ((List.range i.size).map fun k=>cellD w b (o+k)).toArray)/\(g=false->v=cellD w b o):=by
 unfold Instr.loadAt;have hs:(Instr.sureAddr (.pointer (some ⟨b,o,none⟩))).run P w = .ok ⟨b,o,none⟩ w:=rfl;rw [run_ok hs];unfold loadVar;rw [run_ok (run_isAgg hg w)];cases g with
 | true=>
  simp only [if_true];rw [run_ok (run_sizeOf hi w),run_ok (run_loadCells h)];exact ⟨_,rfl,fun _=>rfl,fun h=>by cases h⟩
 | false=>
  obtain ⟨x,hx⟩:=h o (Nat.le_refl _) (by have:=h1 rfl;omega);exact ⟨x,run_loadCell hx,(fun h=>by cases h),fun _=>(by simp [cellD,hx])⟩
end Go.Fw
namespace Go.Fw
def oneC:Value->Bool
 | .agg _ | .tuple _=>false
 | _=>true
def setsW (w:World) (b o:Nat):List Value->World
 | []=>w
 | v::vs=>setsW (w.setCell ⟨b,o,none⟩ v) b (o+1) vs
theorem setCell_size (w:World) (a:Addr) (v:Value):(w.setCell a v).heap.size=w.heap.size:=by simp [World.setCell]
theorem setCell_heap_ne (w:World) (a:Addr) (v:Value) (b:Nat) (h:b≠a.block):(w.setCell a v).heap[b]?=w.heap[b]?:=by
 simp [World.setCell,Array.getElem?_modify,Ne.symm h]
theorem setCell_cell (w:World) (b o b' o':Nat) (v:Value) :
  (w.setCell ⟨b,o,none⟩ v).cell? ⟨b',o',none⟩=if b'=b/\o'=o then (w.cell? ⟨b,o,none⟩).map fun _=>v else w.cell? ⟨b',o',none⟩:=by
 unfold World.cell? World.setCell;simp only [Array.getElem?_modify];by_cases hb:b'=b
 ·subst hb;simp only [if_true,true_and];cases hw:w.heap[b']? with
  | none=>simp
  | some x=>
   cases x<;>simp;rename_i c elem fz;rw [Array.getElem?_setIfInBounds];by_cases ho:o'=o
   ·subst ho;simp only [if_true];by_cases hs:o'<c.size
    ·simp [hs]
    ·simp [hs]
   ·simp [ho,Ne.symm ho]
 ·simp [hb,Ne.symm hb]
theorem setCell_frozen (w:World) (b o b' o':Nat) (v:Value):(w.setCell ⟨b,o,none⟩ v).frozen? ⟨b',o',none⟩=w.frozen? ⟨b',o',none⟩:=by
 unfold World.frozen? World.setCell;simp only [Array.getElem?_modify];by_cases hb:b'=b
 ·subst hb;simp only [if_true];cases hw:w.heap[b']? with
  | none=>simp
  | some x=>cases x<;>simp
 ·simp [Ne.symm hb]
theorem setsW_facts:∀(vs:List Value) (w:World) (b o:Nat),(setsW w b o vs).heap.size=w.heap.size/\(setsW w b o vs).os=w.os/\(setsW w b o vs).output=w.output /\
  (setsW w b o vs).tape=w.tape/\(∀b',b'≠b->(setsW w b o vs).heap[b']?=w.heap[b']?)/\∀b' o',(setsW w b o vs).frozen? ⟨b',o',none⟩=w.frozen? ⟨b',o',none⟩
 | [],w,b,o=>⟨rfl,rfl,rfl,rfl,fun _ _=>rfl,fun _ _=>rfl⟩
 | v::vs,w,b,o=>by
  obtain ⟨h1,h2,h3,h4,h5,h6⟩:=setsW_facts vs (w.setCell ⟨b,o,none⟩ v) b (o+1);refine ⟨by simp only [setsW];rw [h1,setCell_size],by simp only [setsW];rw [h2];rfl,by simp only [setsW];rw [h3];rfl,by simp only [setsW];rw [h4];rfl,fun b' hb' => ?_,fun b' o' => ?_⟩
  ·simp only [setsW];rw [h5 b' hb',setCell_heap_ne w _ v b' hb']
  ·simp only [setsW];rw [h6,setCell_frozen]
theorem setsW_cell:∀(vs:List Value) (w:World) (b o b' o':Nat),
  (setsW w b o vs).cell? ⟨b',o',none⟩=if b'=b/\o<=o'/\o'<o+vs.length then (w.cell? ⟨b',o',none⟩).map fun _=>vs.getD (o'-o) undef else w.cell? ⟨b',o',none⟩
 | [],w,b,o,b',o'=>by
  simp only [setsW,List.length_nil,Nat.add_zero];rw [if_neg (by omega)]
 | v::vs,w,b,o,b',o'=>by
  simp only [setsW,List.length_cons];rw [setsW_cell vs,setCell_cell];by_cases hb:b'=b
  ·subst hb;by_cases ho:o'=o
   ·subst ho;rw [if_neg (by omega),if_pos (by simp),if_pos (by omega)];simp
   ·by_cases h1:o+1<=o'/\o'<o+1+vs.length
    ·rw [if_pos (by omega),if_neg (by omega),if_pos (by omega)];congr 1;funext _;rw [show o'-o=(o'-(o+1))+1 from by omega];rfl
    ·rw [if_neg (by omega),if_neg (by omega),if_neg (by omega)]
  ·simp [hb]
theorem setsW_same {w:World} {b o:Nat} {vs:List Value} {b':Nat} (h:b'≠b):Same w (setsW w b o vs) b':=by
 refine ⟨fun hb=>by rw [(setsW_facts vs w b o).1];exact hb,fun o' x hx=>⟨?_,(setsW_facts vs w b o).2.2.2.2.2 _ _⟩⟩;rw [setsW_cell,if_neg (by simp [h])];exact hx
theorem setsW_wrb {w:World} {b o:Nat} {vs:List Value} {b' lo hi:Nat} (h:Wrb w b' lo hi):Wrb (setsW w b o vs) b' lo hi:=by
 intro o' h1 h2;obtain ⟨⟨x,hx⟩,hf⟩:=h o' h1 h2;refine ⟨?_,by rw [(setsW_facts vs w b o).2.2.2.2.2];exact hf⟩;rw [setsW_cell];split
 ·exact ⟨_,by rw [hx];rfl⟩
 ·exact ⟨x,hx⟩
theorem setsW_cellD {w:World} {b o:Nat} {vs:List Value} (h:Wrb w b o (o+vs.length)) (k:Nat) (hk:k<vs.length):cellD (setsW w b o vs) b (o+k)=vs.getD k undef:=by
 obtain ⟨⟨x,hx⟩,_⟩:=h (o+k) (by omega) (by omega);unfold cellD;rw [setsW_cell,if_pos ⟨rfl,by omega,by omega⟩,hx,show o+k-o=k from by omega];simp
theorem run_store {P:Program} {b o:Nat} {v x:Value} {w:World} (h1:oneC v=true) (hx:w.cell? ⟨b,o,none⟩=some x) (hf:w.frozen? ⟨b,o,none⟩=false) :
  (store ⟨b,o,none⟩ v).run P w = .ok () (w.setCell ⟨b,o,none⟩ v):=by
 unfold store;cases v<;>simp [oneC] at h1<;>simp [Sem.run,hx,hf]
theorem run_storeCells {P:Program} {b o:Nat}:∀(vs:List Value) (i:Nat) (w:World),vs.all oneC=true->Wrb w b (o+i) (o+i+vs.length) ->
  (storeCells ⟨b,o,none⟩ vs i).run P w = .ok () (setsW w b (o+i) vs)
 | [],i,w,_,_=>by simp [storeCells,pure,Sem.run,setsW]
 | v::vs,i,w,h1,h=>by
  simp only [List.all_cons,Bool.and_eq_true] at h1;obtain ⟨⟨x,hx⟩,hf⟩:=h (o+i) (Nat.le_refl _) (by simp);unfold storeCells;rw [add_off,run_ok (run_store h1.1 hx hf),run_storeCells vs (i+1) _ h1.2 ?_]
  ·simp [setsW,Nat.add_assoc]
  ·have:setsW w b (o+i) [v]=w.setCell ⟨b,o+i,none⟩ v:=rfl;rw [<-this];exact setsW_wrb (h.sub (by omega) (by simp;omega))
theorem run_storeAt {P:Program} {t:TypeId} {i:TypeInfo} {b o:Nat} {v:Value} {w:World} (hi:P.info? t=some i) (hv:v.cells.size=i.size) (h1:v.cells.toList.all oneC=true)
  (h:Wrb w b o (o+i.size)):(Instr.storeAt t (.pointer (some ⟨b,o,none⟩)) v).run P w = .ok () (setsW w b o v.cells.toList):=by
 unfold Instr.storeAt;have hs:(Instr.sureAddr (.pointer (some ⟨b,o,none⟩))).run P w = .ok ⟨b,o,none⟩ w:=rfl;rw [run_ok hs];unfold storeVar;rw [run_ok (run_sizeOf hi w)];have hne:¬(v.cells.size≠i.size):=by simp [hv]
 have:=run_storeCells (P:=P) v.cells.toList 0 w h1 (by simpa [hv] using h) (b:=b) (o:=o);simp only [Nat.add_zero] at this;simp only [if_neg hne];exact this
theorem run_fieldAt {P:Program} {s:TypeId} {fs:Array Field} {f:Nat} {fi:Field} {i:TypeInfo} {b o:Nat} {w:World} (h:P.underlying s=some (.struct fs)) (hf:fs[f]?=some fi)
  (hi:P.info? fi.type=some i) (h0:i.size≠0):(Instr.fieldAt s (.pointer (some ⟨b,o,none⟩)) f).run P w = .ok (.pointer (some ⟨b,o+fi.offset,none⟩)) w:=by
 unfold Instr.fieldAt;rw [run_ok (run_underlying h w)];simp only [hf];have hs:(Instr.sureAddr (.pointer (some ⟨b,o,none⟩))).run P w = .ok ⟨b,o,none⟩ w:=rfl;rw [run_ok hs];unfold fieldPlace;have h2:((do if (<-sizeOf fi.type)=0 then partAt ⟨b,o,none⟩ fi.offset fi.byteOffset else pure (Addr.add ⟨b,o,none⟩ fi.offset)):Sem Addr).run P w = .ok ⟨b,o+fi.offset,none⟩ w:=by
  rw [run_ok (run_sizeOf hi w),if_neg h0,add_off];rfl
 rw [run_ok h2];rfl
theorem run_indexAt {P:Program} {t e:TypeId} {i:TypeInfo} {b o len cap:Nat} {k:IntKind} {n:Int} {w:World} (h:P.underlying t=some (.slice e)) (hi:P.info? e=some i)
  (h0:0<=n) (h1:n<len):(Instr.indexAt t (.slice (some ⟨b,o,none⟩) len cap) (.int k n)).run P w = .ok (.pointer (some ⟨b,o+n.toNat*i.size,none⟩)) w:=by
 unfold Instr.indexAt;have hs:(asIntOf (.int k n)).run P w = .ok (k,n) w:=rfl;rw [run_ok hs];simp only;rw [run_ok (run_underlying h w)];simp only;rw [run_ok (run_pure _ P w),run_ok (run_underlying h w)];simp only [h0,h1,and_self,if_true];rw [run_ok (run_sizeOf hi w),add_off];rfl
theorem run_slice {P:Program} {t e:TypeId} {i:TypeInfo} {ao:Option Addr} {len cap:Nat} {lo hi:Option Value} {l h:Nat} {w:World} (hu:P.underlying t=some (.slice e)) (hi':P.info? e=some i)
  (hlo:(lo=none/\l=0)\/∃k,lo=some (.int k (l:Int))) (hhi:(hi=none/\h=len)\/∃k,hi=some (.int k (h:Int))) (h1:l<=h) (h2:h<=cap) :
  (Instr.sliceAt t (.slice ao len cap) lo hi none).run P w = .ok (.slice (if cap=l then ao else ao.map (·.add (l*i.size))) (h-l) (cap-l)) w:=by
 have hb:∀(x y:Nat) (c:BoundsCode) (k:IntKind),x<=y->(Instr.sliceBound (.int k (x:Int)) y c).run P w = .ok x w:=by
  intro x y c k hxy;unfold Instr.sliceBound;have hs:(asIntOf (.int k (x:Int))).run P w = .ok (k,(x:Int)) w:=rfl;rw [run_ok hs];have:(0:Int)<=x/\(x:Int)<=y:=by omega
  simp only [this,and_self,if_true];rfl
 have hbs:(Instr.sliceBounds true len cap lo hi none).run P w = .ok (l,h,cap) w:=by
  unfold Instr.sliceBounds;simp only;rw [run_ok (run_pure cap P w)];rcases hhi with ⟨rfl,rfl⟩|⟨k,rfl⟩
  ·simp only;rw [run_ok (run_pure h P w)];rcases hlo with ⟨rfl,rfl⟩|⟨k,rfl⟩
   ·simp only;rw [run_ok (run_pure 0 P w)];rfl
   ·simp only;rw [run_ok (hb l h _ k h1)];rfl
  ·simp only;rw [run_ok (hb h cap _ k h2)];rcases hlo with ⟨rfl,rfl⟩|⟨k,rfl⟩
   ·simp only;rw [run_ok (run_pure 0 P w)];rfl
   ·simp only;rw [run_ok (hb l h _ k h1)];rfl
 unfold Instr.sliceAt;rw [run_ok (run_underlying hu w)];simp only;unfold Instr.slice;rw [run_ok (run_underlying hu w)];simp only;rw [run_ok hbs];simp only;rw [run_ok (run_sizeOf hi' w)];rfl
end Go.Fw
namespace Go.Fw
theorem growBy_le (need:Nat):∀(r c B:Nat),c<=B->need+(need+768) / 4<=B->Builtin.growBy need r c<=B
 | 0,c,B,h,_=>h
 | r+1,c,B,h,h2=>by
  unfold Builtin.growBy;split
  ·exact h
  ·exact growBy_le need r _ B (by omega) h2
theorem nextslicecap_le (need cap:Nat) (h:cap<need):Builtin.nextslicecap need cap<=2*need+512:=by
 unfold Builtin.nextslicecap;split
 ·omega
 ·split
  ·omega
  ·exact growBy_le need 4 cap _ (by omega) (by omega)
def drewW (w:World):World:={ w with drawn:=w.drawn+1 }
theorem drewW_grows (w:World):Grows w (drewW w):=⟨Nat.le_refl _,fun _ _=>rfl,rfl,rfl,rfl⟩
theorem Grows.trans {w w1 w2:World} (h:Grows w w1) (h':Grows w1 w2):Grows w w2:=
 ⟨Nat.le_trans h.size h'.size,fun b hb=>by rw [h'.old b (Nat.lt_of_lt_of_le hb h.size),h.old b hb],by rw [h'.os,h.os],by rw [h'.out,h.out],by rw [h'.tape,h.tape]⟩
def behind (w:World) (m:Nat):Option Addr->List Value
 | some a=>(List.range m).map fun k=>cellD w a.block (a.off+k)
 | none=>[]
theorem run_firstCells {P:Program} {size n cap:Nat} {ao:Option Addr} {w:World} (h:n=0\/∃b o,ao=some ⟨b,o,none⟩/\Rdb w b o (o+n*size)) :
  (Builtin.firstCells size n (.slice ao n cap)).run P w = .ok (behind w (n*size) ao).toArray w:=by
 unfold Builtin.firstCells;rcases h with rfl|⟨b,o,rfl,hr⟩
 ·cases ao with
  | none=>rfl
  | some a=>
   simp only [Nat.zero_mul,behind,List.range_zero,List.map_nil];rfl
 ·simp only [behind];exact run_loadCells hr
structure ElemOk (P:Program) (t e:TypeId) (i:TypeInfo) (z:Value):Prop where
 slice:P.underlying t=some (.slice e)
 info:P.info? e=some i
 zero:i.zero=some z
 zsize:z.cells.size=i.size
 bytes:i.bytes<=4096
 pos:0<i.size
theorem run_append {P:Program} {t t2 e e2:TypeId} {i:TypeInfo} {z:Value} {ao xo:Option Addr} {len cap n xc:Nat} {ty:TypeId} {w:World} (hE:ElemOk P t e i z)
  (ht2:P.underlying t2=some (.slice e2)) (hlen:len<=cap) (hlim:len+n<=4294967296)
  (hs:(ao=none/\cap=0)\/∃b o,ao=some ⟨b,o,none⟩/\Wrb w b o (o+cap*i.size))
  (hx:n=0\/∃b o,xo=some ⟨b,o,none⟩/\Rdb w b o (o+n*i.size)) (h1:(behind w (n*i.size) xo).all oneC=true) :
  (∃b o,ao=some ⟨b,o,none⟩/\len+n<=cap/\(Builtin.append_ #[t,t2] ty #[.slice ao len cap,.slice xo n xc]).run P w =
   .ok (.slice ao (len+n) cap) (setsW w b (o+len*i.size) (behind w (n*i.size) xo))) \/
  (len+n=0/\ao=none/\(Builtin.append_ #[t,t2] ty #[.slice ao len cap,.slice xo n xc]).run P w = .ok (.slice none 0 0) w) \/
  (∃newCap rest,cap<len+n/\len+n<=newCap/\rest.length=(newCap-(len+n))*i.size/\(Builtin.append_ #[t,t2] ty #[.slice ao len cap,.slice xo n xc]).run P w =
   .ok (.slice (some ⟨w.heap.size,0,none⟩) (len+n) newCap) (pushW (drewW w) (behind w (len*i.size) ao++behind w (n*i.size) xo++rest).toArray e)):=by
 have hfc:∀(w':World) (f:Array Value->Sem Value),(∀b o,w'.cell? ⟨b,o,none⟩=w.cell? ⟨b,o,none⟩) ->
   ((Builtin.firstCells i.size n (.slice xo n xc)) >>= f).run P w'=(f (behind w (n*i.size) xo).toArray).run P w':=by
  intro w' f hw';have hb:behind w' (n*i.size) xo=behind w (n*i.size) xo:=by
   cases xo with
   | none=>rfl
   | some a=>simp only [behind,cellD,hw']
  rw [<-hb];refine run_ok (run_firstCells (hx.imp id fun ⟨b,o,h1,h2⟩=>⟨b,o,h1,fun o' g1 g2 => ?_⟩));rw [hw'];exact h2 o' g1 g2
 have hl:(Builtin.lenOf (.slice xo n xc)).run P w = .ok n w:=rfl;unfold Builtin.append_;simp only [List.getElem?_toArray,List.getElem?_cons_zero,List.getElem?_cons_succ];simp only [run_ok (run_underlying hE.slice w)];simp only [run_ok (run_sizeOf hE.info w)];simp only [run_ok (run_underlying ht2 w)];simp only [run_ok (run_pure _ P w),Bool.false_eq_true,if_false,Bool.not_false,if_true,false_or];simp only [run_ok hl];by_cases hc:len+n<=cap
 ·simp only [hc,if_true];simp only [hfc w _ fun _ _=>rfl];rcases hs with ⟨rfl,rfl⟩|⟨b,o,rfl,hw⟩
  ·refine .inr (.inl ⟨by omega,rfl,?_⟩);have:len+n=0:=by omega
   rw [this];rfl
  ·refine .inl ⟨b,o,rfl,trivial,?_⟩;simp only [add_off];have hlen':(behind w (n*i.size) xo).length<=n*i.size:=by cases xo<;>simp [behind]
   have hmul:=Nat.mul_le_mul_right i.size hc;rw [Nat.add_mul] at hmul;have:=run_storeCells (P:=P) (b:=b) (o:=o+len*i.size) (behind w (n*i.size) xo) 0 w h1 (hw.sub (by omega) (by omega));simp only [Nat.add_zero] at this;simp only [run_ok this];rfl
 ·simp only [hc,if_false];have hby:¬(((len+n:Nat):Int) > IntKind.i64.max):=by
   have:IntKind.i64.max=9223372036854775807:=by decide
   rw [this];omega
  simp only [run_ok (run_typeInfo hE.info w),hby,false_and,if_false];have hcap:=nextslicecap_le (len+n) cap (by omega);have hb2:¬Builtin.nextslicecap (len+n) cap*i.bytes > 2 ^ 48:=by
   have:=Nat.mul_le_mul hcap hE.bytes;have:(2*(len+n)+512)*4096<=2 ^ 48:=by omega
   omega
  simp only [hb2,if_false];have hch:(choose (.appendCap (len+n) cap e)).run P w = .ok ((Question.appendCap (len+n) cap e).cut (w.tape w.drawn (.appendCap (len+n) cap e))) (drewW w):=rfl;simp only [run_ok hch];have hge:len+n<=(Question.appendCap (len+n) cap e).cut (w.tape w.drawn (.appendCap (len+n) cap e)):=by
   simp only [Question.cut];omega
  generalize (Question.appendCap (len+n) cap e).cut (w.tape w.drawn (.appendCap (len+n) cap e))=newCap at hge ⊢;have hask:(askRoom (newCap*i.bytes)).run P (drewW w) = .ok () (drewW w):=by
   unfold askRoom;split<;>rfl
  simp only [run_ok (run_typeInfo hE.info (drewW w)),run_ok hask];have hold:(Builtin.firstCells i.size len (.slice ao len cap)).run P (drewW w) = .ok (behind w (len*i.size) ao).toArray (drewW w):=by
   have hb:behind w (len*i.size) ao=behind (drewW w) (len*i.size) ao:=by cases ao<;>rfl
   rw [hb];refine run_firstCells ?_;rcases hs with ⟨_,rfl⟩|⟨b,o,rfl,hw⟩
   ·exact .inl (by omega)
   ·have hmul:=Nat.mul_le_mul_right i.size hlen;exact .inr ⟨b,o,rfl,hw.rdb.sub (Nat.le_refl _) (by omega)⟩
  simp only [run_ok hold];simp only [hfc (drewW w) _ fun _ _=>rfl];simp only [run_ok (run_zero hE.info hE.zero (drewW w)),run_ok (run_newRow e _ (drewW w))];refine .inr (.inr ⟨newCap,(Builtin.zeroCells z.cells (newCap-(len+n))).toList,by omega,hge,?_,?_⟩)
  ·simp [Builtin.zeroCells,hE.zsize]
  ·rw [run_pure];congr 1;congr 1;apply Array.ext';simp
end Go.Fw
namespace Go.Fw
def splice {α:Type} (l:List α) (off:Nat) (x:List α):List α:=l.take off++(x++l.drop (off+x.length))
theorem splice_length {α:Type} {l x:List α} {off:Nat} (h:off+x.length<=l.length):(splice l off x).length=l.length:=by
 simp [splice];omega
theorem splice_cons {α:Type} {l:List α} {off:Nat} {a:α} {x:List α} (h:off+(a::x).length<=l.length):splice l off (a::x)=splice (l.set off a) (off+1) x:=by
 simp only [List.length_cons] at h;unfold splice;simp only [List.length_cons];rw [List.drop_set_of_lt (by omega)];rw [show off+1+x.length=off+(x.length+1) from by omega,List.take_set,List.take_succ_eq_append_getElem (by omega)];rw [List.set_append_right _ _ (by simp;omega)];have:off-(List.take off l).length=0:=by simp;omega
 rw [this];simp
theorem splice_nil {α:Type} (l:List α) (off:Nat):splice l off []=l:=by simp [splice]
theorem foldl_set {x:List Value}:∀{cells:Array Value} {off k:Nat},off+k+x.length<=cells.size ->
  ((x.zipIdx k).foldl (fun (cs:Array Value) (p:Value × Nat)=>cs.setIfInBounds (off+p.2) p.1) cells).toList=splice cells.toList (off+k) x:=by
 induction x with
 | nil=>intro cells off k _;simp [splice_nil]
 | cons a x ih=>
  intro cells off k h;simp only [List.length_cons] at h;simp only [List.zipIdx_cons,List.foldl_cons];rw [ih (by simp;omega)];rw [splice_cons (by simp;omega)];simp [Nat.add_assoc]
def fillL {α:Type} (place:Nat->Option (Nat × Nat)):List α->List (Nat × List α)->Option (List α)
 | cells,[]=>some cells
 | cells,(i,x)::rest=>match place i with
  | none=>none
  | some (off,size)=>if x.length=size/\off+x.length<=cells.length then fillL place (splice cells off x) rest else none
theorem fill_of {place:Nat->Option (Nat × Nat)}:∀{parts:List (Nat × Value)} {cells:Array Value} {l:List Value},fillL place cells.toList (parts.map fun p=>(p.1,p.2.cells.toList))=some l ->
  Instr.fill place cells parts=some l.toArray
 | [],cells,l,h=>by simp only [List.map_nil,fillL,Option.some.injEq] at h;subst h;simp [Instr.fill]
 | (i,v)::rest,cells,l,h=>by
  simp only [List.map_cons,fillL] at h
  unfold Instr.fill
  cases hp:place i with
  | none=>simp [hp] at h
  | some os=>
   obtain ⟨off,size⟩:=os
   simp only [hp] at h ⊢
   split at h
   ·rename_i hc
    simp only [Array.length_toList] at hc
    have:¬((v.cells.size≠size || decide (off+v.cells.size > cells.size))=true):=by simp;omega
    rw [if_neg this]
    refine fill_of ?_
    have hz:(Array.foldl (fun cs (x:Value × Nat)=>match x with | (c,j)=>cs.setIfInBounds (off+j) c) cells v.cells.zipIdx).toList=splice cells.toList off v.cells.toList:=by
     rw [<-Array.foldl_toList];have:=foldl_set (x:=v.cells.toList) (cells:=cells) (off:=off) (k:=0) (by simpa using hc.2);simpa [Array.toList_zipIdx] using this
    rw [hz]
    exact h
   ·cases h
theorem bind_pure_sem {α:Type} (e:Sem α):e.bind Sem.pure=e:=by
 induction e with
 | pure a=>rfl
 | halt h=>rfl
 | load m a k ih=>simp only [Sem.bind];congr 1;funext x;exact ih x
 | store m a v k ih=>simp only [Sem.bind];rw [ih]
 | new o k ih=>simp only [Sem.bind];congr 1;funext x;exact ih x
 | shape r k ih=>simp only [Sem.bind];congr 1;funext x;exact ih x
 | freeze a n k ih=>simp only [Sem.bind];rw [ih]
 | frozen a k ih=>simp only [Sem.bind];congr 1;funext x;exact ih x
 | getObj r k ih=>simp only [Sem.bind];congr 1;funext x;exact ih x
 | setObj r o k ih=>simp only [Sem.bind];rw [ih]
 | choose q k ih=>simp only [Sem.bind];congr 1;funext x;exact ih x
 | sys c k ih=>simp only [Sem.bind];congr 1;funext x;exact ih x
 | program k ih=>simp only [Sem.bind];congr 1;funext x;exact ih x
 | mark m k ih=>simp only [Sem.bind];rw [ih]
theorem bind_assoc_sem {α β γ:Type} (e:Sem α) (f:α->Sem β) (g:β->Sem γ):(e.bind f).bind g=e.bind fun a=>(f a).bind g:=by
 induction e with
 | pure a=>rfl
 | halt h=>rfl
 | load m a k ih=>simp only [Sem.bind];congr 1;funext x;exact ih x
 | store m a v k ih=>simp only [Sem.bind];rw [ih]
 | new o k ih=>simp only [Sem.bind];congr 1;funext x;exact ih x
 | shape r k ih=>simp only [Sem.bind];congr 1;funext x;exact ih x
 | freeze a n k ih=>simp only [Sem.bind];rw [ih]
 | frozen a k ih=>simp only [Sem.bind];congr 1;funext x;exact ih x
 | getObj r k ih=>simp only [Sem.bind];congr 1;funext x;exact ih x
 | setObj r o k ih=>simp only [Sem.bind];rw [ih]
 | choose q k ih=>simp only [Sem.bind];congr 1;funext x;exact ih x
 | sys c k ih=>simp only [Sem.bind];congr 1;funext x;exact ih x
 | program k ih=>simp only [Sem.bind];congr 1;funext x;exact ih x
 | mark m k ih=>simp only [Sem.bind];rw [ih]
theorem lawfulSem:LawfulMonad Sem:=
 LawfulMonad.mk' Sem (id_map:=fun x=>bind_pure_sem x) (pure_bind:=fun _ _=>rfl) (bind_assoc:=fun x f g=>bind_assoc_sem x f g)
theorem run_mapM {α β:Type} {P:Program} {f:α->Sem β} {g:α->β} {as:Array α} (h:∀a,a∈as.toList->∀w,(f a).run P w = .ok (g a) w) (w:World):(as.mapM f).run P w = .ok (as.map g) w:=by
 rw [@Array.mapM_eq_foldlM Sem α β _ lawfulSem f as,<-Array.foldlM_toList];have key:∀(l:List α) (acc:Array β),(∀a,a∈l->∀w,(f a).run P w = .ok (g a) w)->(l.foldlM (fun bs a=>bs.push <$> f a) acc:Sem (Array β)).run P w = .ok (acc++(l.map g).toArray) w:=by
  intro l;induction l with
  | nil=>intro acc _;simp [List.foldlM,run_pure]
  | cons a l ih=>
   intro acc hl;simp only [List.foldlM_cons];have:(acc.push <$> f a:Sem (Array β)).run P w = .ok (acc.push (g a)) w:=by
    show ((f a) >>= fun b=>pure (acc.push b)).run P w=_;rw [run_ok (hl a (by simp) w)];rfl
   rw [run_ok this,ih _ fun a ha=>hl a (by simp [ha])];congr 1;apply Array.ext';simp
 rw [key as.toList #[] h];congr 1;apply Array.ext';simp
def placesOf (P:Program) (fs:Array Field):List (Nat × Nat):=fs.toList.map fun f=>(f.offset,((P.info? f.type).map (·.size)).getD 0)
theorem run_build {P:Program} {t:TypeId} {fs:Array Field} {i:TypeInfo} {z:Value} {parts:Array (Nat × Value)} {l:List Value} {w:World} (hu:P.underlying t=some (.struct fs))
  (hi:P.info? t=some i) (hz:i.zero=some z) (hf:fs.toList.all (fun f=>(P.info? f.type).isSome)=true)
  (hl:fillL (fun k=>(placesOf P fs)[k]?) z.cells.toList (parts.toList.map fun p=>(p.1,p.2.cells.toList))=some l):(Instr.build t parts).run P w = .ok (.agg l.toArray) w:=by
 unfold Instr.build;rw [run_ok (run_zero hi hz w)];simp only;rw [run_ok (run_underlying hu w)];simp only;have hm:=run_mapM (P:=P) (f:=fun f:Field=>(do pure (f.offset,<-sizeOf f.type):Sem (Nat × Nat))) (g:=fun f=>(f.offset,((P.info? f.type).map (·.size)).getD 0)) (as:=fs) (by
  intro a ha w
  have:=List.all_eq_true.1 hf a ha
  obtain ⟨ia,hia⟩:=Option.isSome_iff_exists.1 this
  rw [run_ok (run_sizeOf hia w)]
  simp [hia,run_pure]) w
 rw [run_ok hm];have h2:(fun k:Nat=>(fs.map fun f:Field=>(f.offset,((P.info? f.type).map (·.size)).getD 0))[k]?)=fun k:Nat=>(placesOf P fs)[k]?:=by
  funext k;simp [placesOf]
 rw [h2,fill_of hl];rfl
theorem run_buildSlice {P:Program} {t e:TypeId} {i:TypeInfo} {z:Value} {n:Nat} {parts:Array (Nat × Value)} {l:List Value} {w:World} (hE:ElemOk P t e i z) (hn:n*i.size<=16777216)
  (hl:fillL (fun k=>some (k*i.size,i.size)) ((List.replicate n z.cells.toList).flatten) (parts.toList.map fun p=>(p.1,p.2.cells.toList))=some l) :
  (Instr.buildSlice t n parts).run P w = .ok (.slice (some ⟨w.heap.size,0,none⟩) n n) (pushW w l.toArray e):=by
 unfold Instr.buildSlice;rw [run_ok (run_underlying hE.slice w)];simp only;rw [run_ok (run_sizeOf hE.info w)];have h0:¬n*i.size > 2 ^ 24:=by omega
 simp only [h0,if_false];have hflat:∀zc:Array Value,(n≠0->zc=z.cells)->((Array.range (n*i.size)).map (zc[· % zc.size]!)).toList=(List.replicate n z.cells.toList).flatten:=by
  intro zc hzc;by_cases hn0:n=0
  ·subst hn0;simp
  ·rw [hzc hn0,Array.toList_map,Array.toList_range];have hsz:=hE.zsize;have hpos:=hE.pos;apply List.ext_getElem
   ·simp [hsz]
   ·intro k h1 h2;simp only [List.length_map,List.length_range] at h1;rw [List.getElem_map,List.getElem_range];rw [<-hsz] at h1 hpos;have hk:k % z.cells.size<z.cells.size:=Nat.mod_lt _ hpos;have key:∀(n k:Nat),k<n*z.cells.size->((List.replicate n z.cells.toList).flatten)[k]?=some (z.cells[k % z.cells.size]'(Nat.mod_lt _ hpos)):=by
     intro n;induction n with
     | zero=>intro k hk;omega
     | succ n ih=>
      intro k hk;rw [List.replicate_succ,List.flatten_cons,List.getElem?_append];split
      ·rename_i hlt;have hlt':k<z.cells.size:=by simpa using hlt
       simp [Nat.mod_eq_of_lt hlt',hlt']
      ·rename_i hge;have hge':z.cells.size<=k:=by simpa using hge
       rw [Nat.add_mul,Nat.one_mul] at hk;rw [show z.cells.toList.length=z.cells.size from by simp,ih _ (by omega)];congr 1;congr 1;rw [Nat.mod_eq_sub_mod hge']
    have:=key n k h1;rw [List.getElem?_eq_getElem h2] at this;simp only [Option.some.injEq] at this;rw [this];simp [hk]
 by_cases hn0:n*i.size=0
 ·have hn1:n=0:=by
   have:=hE.pos;rcases Nat.mul_eq_zero.1 hn0 with h|h<;>omega
  have hf:=hflat #[] fun h=>absurd hn1 h
  simp only [hn0,if_true,run_ok (run_pure _ P w)];rw [fill_of (l:=l) (by rw [<-hl,<-hf,hn0])];simp only [run_ok (run_newRow e _ w)];rfl
 ·have hf:=hflat z.cells fun _=>rfl
  simp only [hn0,if_false];rw [run_ok (run_zero hE.info hE.zero w),run_ok (run_pure _ P w)];rw [fill_of (l:=l) (by rw [<-hl,<-hf])];simp only [run_ok (run_newRow e _ w)];rfl
theorem repl_cells {z:Value} {size:Nat} (hsz:z.cells.size=size) (hpos:0<size) (n:Nat) (zc:Array Value) (hzc:n≠0->zc=z.cells) :
  ((Array.range (n*size)).map (zc[· % zc.size]!)).toList=(List.replicate n z.cells.toList).flatten:=by
 by_cases hn0:n=0
 ·subst hn0;simp
 ·rw [hzc hn0,Array.toList_map,Array.toList_range];apply List.ext_getElem
  ·simp [hsz]
  ·intro k h1 h2;simp only [List.length_map,List.length_range] at h1;rw [List.getElem_map,List.getElem_range];rw [<-hsz] at h1 hpos;have hk:k % z.cells.size<z.cells.size:=Nat.mod_lt _ hpos;have key:∀(n k:Nat),k<n*z.cells.size->((List.replicate n z.cells.toList).flatten)[k]?=some (z.cells[k % z.cells.size]'(Nat.mod_lt _ hpos)):=by
    intro n;induction n with
    | zero=>intro k hk;omega
    | succ n ih=>
     intro k hk;rw [List.replicate_succ,List.flatten_cons,List.getElem?_append];split
     ·rename_i hlt;have hlt':k<z.cells.size:=by simpa using hlt
      simp [Nat.mod_eq_of_lt hlt',hlt']
     ·rename_i hge;have hge':z.cells.size<=k:=by simpa using hge
      rw [Nat.add_mul,Nat.one_mul] at hk;rw [show z.cells.toList.length=z.cells.size from by simp,ih _ (by omega)];congr 1;congr 1;rw [Nat.mod_eq_sub_mod hge']
   have:=key n k h1;rw [List.getElem?_eq_getElem h2] at this;simp only [Option.some.injEq] at this;rw [this];simp [hk]
theorem run_makeSlice {P:Program} {t e:TypeId} {i:TypeInfo} {z:Value} {n:Nat} {k:IntKind} {w:World} (hE:ElemOk P t e i z) (hn:n<=4294967296) :
  (Instr.makeSlice t (.int k (n:Int)) (.int k (n:Int))).run P w =
   .ok (.slice (some ⟨w.heap.size,0,none⟩) n n) (pushW w ((List.replicate n z.cells.toList).flatten).toArray e):=by
 unfold Instr.makeSlice;rw [run_ok (run_underlying hE.slice w)];simp only;have hint:(asInt (.int k (n:Int))).run P w = .ok (n:Int) w:=rfl;rw [run_ok hint,run_ok hint,run_ok (run_typeInfo hE.info w)];have hwr:IntKind.i64.wrap (n:Int)=n:=IntWalk.i64_in _ (by omega);have hb:=hE.bytes;have hmul:i.bytes*n<=4096*4294967296:=Nat.mul_le_mul hb hn;have hbig:¬((i.bytes:Int)*(n:Int) > 2 ^ 48):=by
  rw [<-Int.natCast_mul];generalize i.bytes*n=q at hmul;omega
 have hneg:¬((n:Int)<0):=by omega
 simp only [hwr];rw [if_neg (by
  simp only [Bool.or_eq_true,decide_eq_true_eq,not_or]
  exact ⟨⟨⟨hneg,hbig⟩,hneg⟩,by omega⟩)]
 have hask:(askRoom ((n:Int).toNat*i.bytes)).run P w = .ok () w:=by
  unfold askRoom;split<;>rfl
 rw [run_ok hask,run_ok (run_sizeOf hE.info w)];simp only [Int.toNat_natCast];by_cases hn0:n*i.size=0
 ·have hn1:n=0:=by
   have:=hE.pos;rcases Nat.mul_eq_zero.1 hn0 with h|h<;>omega
  have hf:=repl_cells hE.zsize hE.pos n #[] fun h=>absurd hn1 h
  simp only [hn0,if_true,run_ok (run_pure _ P w)];rw [run_ok (run_newRow e _ w),<-hf,hn0];subst hn1;rfl
 ·have hf:=repl_cells hE.zsize hE.pos n z.cells fun _=>rfl
  simp only [hn0,if_false];rw [run_ok (run_zero hE.info hE.zero w),run_ok (run_pure _ P w),run_ok (run_newRow e _ w),<-hf];rfl
end Go.Fw
namespace Go.Fw
def clrF (d:Nat) (p:Pl):Option Pl:=if p.1=d then none else some p
section
variable {ac:Nat->Nat->Value} {κ0 κ:Col} {w0 w w':World} {N:Nat} {tg:Nat->TT} {sv:Nat->AV} {tm:Nat->Value}
def setT (tg:Nat->TT) (d:Nat) (tag:TT):Nat->TT:=upd (fun t=>(tg t).kill [d] []) d tag
theorem R_set0 (h:R ac κ0 w0 κ w N tg sv tm) {d:Nat} (hd:d<N) {tag:TT} {av:AV} {x:Value} {nb:Option (Nat × Pl)} (hw:Grows w w')
  (hnb:∀b p,nb=some (b,p)->w.heap.size<=b/\b<w'.heap.size)
  (ht:TR ac (recol κ (clrF d) nb) w' (setT tg d tag) (upd sv d av) (upd tm d x) d tag) :
  R ac κ0 w0 (recol κ (clrF d) nb) w' N (setT tg d tag) (upd sv d av) (upd tm d x):=by
 refine R_mv (mods:=[d]) (M:=[]) h (by have:=h.nle;simp;omega) hw (fun r q hr => ?_) (fun r q p hp _ => ?_) hnb (fun r hr => ?_) (fun r hr => ?_) (fun r hr => ?_) (fun t ht' => ?_) (fun t htN => ?_)
 ·simp at hr;simp [clrF,hr]
 ·unfold clrF at hp;split at hp
  ·cases hp
  ·cases hp;rfl
 ·simp at hr;simp [setT,upd,hr]
 ·simp at hr;simp [upd,hr]
 ·simp at hr;simp [upd,hr]
 ·simp at ht';subst ht';simpa [setT,upd] using ht
 ·have hne:t≠d:=by omega
  simp [setT,upd,hne,h.out t htN,TT.kill]
theorem kill_nil (cs:List CT):cs.map (killC [])=cs:=by
 have:killC []=id:=by funext c;exact killC_nil c
 rw [this];simp
theorem TR_data {κ':Col} {tg':Nat->TT} {d:Nat} {y:Value} (hy:sc y=true) :
  TR ac κ' w' tg' (upd sv d (.v [.v y] [])) (upd tm d y) d (.val false [.d]):=by
 simp only [TR,upd_self];refine ⟨_,[y],rfl,?_,rfl,?_,?_⟩
 ·cases y<;>simp [sc] at hy<;>rfl
 ·intro k j c e hk;cases k<;>simp at hk
 ·simp only [RCL,RC];exact ⟨⟨rfl,hy⟩,trivial⟩
end
end Go.Fw
namespace Go.Fw
mutual
def CT.nown:CT->Bool
 | .d=>true
 | .sl (.own _) _=>false
 | .sl _ e=>CT.nowns e
def CT.nowns:List CT->Bool
 | []=>true
 | c::cs=>c.nown&&CT.nowns cs
end
mutual
def CT.srcs:CT->List Nat
 | .d=>[]
 | .sl (.ro S) e=>S++CT.srcss e
 | .sl _ e=>CT.srcss e
def CT.srcss:List CT->List Nat
 | []=>[]
 | c::cs=>c.srcs++CT.srcss cs
end
mutual
theorem srcs_allS {S:List Nat}:∀{c:CT},(∀r,r∈c.srcs->r∈S)->c.allS (fun S0=>∀r,r∈S0->r∈S)
 | .d,_=>by simp [CT.allS]
 | .sl (.ro S0) e,h=>by
  simp only [CT.srcs,List.mem_append] at h;simp only [CT.allS];exact ⟨fun r hr=>h r (.inl hr),srcss_allSs fun r hr=>h r (.inr hr)⟩
 | .sl (.own _) e,h=>by simp only [CT.srcs] at h;simp only [CT.allS];exact srcss_allSs h
 | .sl .dead e,h=>by simp only [CT.srcs] at h;simp only [CT.allS];exact srcss_allSs h
theorem srcss_allSs {S:List Nat}:∀{cs:List CT},(∀r,r∈CT.srcss cs->r∈S)->CT.allSs (fun S0=>∀r,r∈S0->r∈S) cs
 | [],_=>by simp [CT.allSs]
 | c::cs,h=>by
  simp only [CT.srcss,List.mem_append] at h;simp only [CT.allSs];exact ⟨srcs_allS fun r hr=>h r (.inl hr),srcss_allSs fun r hr=>h r (.inr hr)⟩
end
mutual
theorem allS_true {P:List Nat->Prop} (h:∀S,P S):∀c:CT,c.allS P
 | .d=>by simp [CT.allS]
 | .sl (.ro S0) e=>by simp only [CT.allS];exact ⟨h S0,allSs_true h e⟩
 | .sl (.own _) e=>by simp only [CT.allS];exact allSs_true h e
 | .sl .dead e=>by simp only [CT.allS];exact allSs_true h e
theorem allSs_true {P:List Nat->Prop} (h:∀S,P S):∀cs:List CT,CT.allSs P cs
 | []=>by simp [CT.allSs]
 | c::cs=>by simp only [CT.allSs];exact ⟨allS_true h c,allSs_true h cs⟩
end
mutual
theorem roize_nown (S:List Nat):∀c:CT,(c.roize S).nown=true
 | .d=>by simp [CT.roize,CT.nown]
 | .sl _ e=>by simp [CT.roize,CT.nown,roizes_nowns S e]
theorem roizes_nowns (S:List Nat):∀cs:List CT,CT.nowns (CT.roizes S cs)=true
 | []=>by simp [CT.roizes,CT.nowns]
 | c::cs=>by simp [CT.roizes,CT.nowns,roize_nown S c,roizes_nowns S cs]
end
mutual
theorem roize_live (S:List Nat):∀c:CT,(c.roize S).live=true
 | .d=>by simp [CT.roize,CT.live]
 | .sl _ e=>by simp [CT.roize,CT.live,roizes_lives S e]
theorem roizes_lives (S:List Nat):∀cs:List CT,CT.lives (CT.roizes S cs)=true
 | []=>by simp [CT.roizes,CT.lives]
 | c::cs=>by simp [CT.roizes,CT.lives,roize_live S c,roizes_lives S cs]
end
section copy
variable {κ κ':Col} {w w':World} {P:List Nat->Prop}
mutual
theorem RC_copy (hro:∀S,P S->∀b,okro κ w S b->okro κ' w' S b/\Same w w' b):∀{c:CT} {p p':Pl} {x:Value} {a:A},c.nown=true->c.allS P->RC κ w c p x a->RC κ' w' c p' x a
 | .d,_,_,_,.v _,_,_,h=>by simp only [RC] at h ⊢;exact h
 | .sl (.ro S) e,p,p',x,.s xs,hn,hs,h=>by
  simp only [RC,CT.allS,CT.nown] at h hs hn ⊢;obtain ⟨ao,cap,hx,hle,hc⟩:=h;refine ⟨ao,cap,hx,hle,?_⟩;rcases hc with h0|⟨b,o,rfl,hb,hr,he⟩
  ·exact .inl h0
  ·obtain ⟨hb',hsame⟩:=hro S hs.1 b hb;refine .inr ⟨b,o,rfl,hb',hsame.rdb hr,?_⟩;refine RCE_get (fun i _ hi => ?_) (RCE_copy hro hn hs.2 he);exact hsame.cD hr (by omega) (by omega)
 | .sl .dead e,_,_,_,a,_,_,_=>by cases a<;>simp [RC]
 | .sl (.own _) _,_,_,_,_,hn,_,_=>by simp [CT.nown] at hn
 | .d,_,_,_,.s _,_,_,h=>by simp [RC] at h
 | .sl (.ro _) _,_,_,_,.v _,_,_,h=>by simp [RC] at h
theorem RCL_copy0 (hro:∀S,P S->∀b,okro κ w S b->okro κ' w' S b/\Same w w' b):∀{cs:List CT} {p p':Pl} {j:Nat} {get:Nat->Value} {as:List A},CT.nowns cs=true->CT.allSs P cs ->
  RCL κ w cs p j get as->RCL κ' w' cs p' j get as
 | [],_,_,_,_,[],_,_,_=>by simp [RCL]
 | c::cs,p,p',j,get,a::as,hn,hs,h=>by
  simp only [CT.allSs,CT.nowns,Bool.and_eq_true,RCL] at h hs hn ⊢;exact ⟨RC_copy hro hn.1 hs.1 h.1,RCL_copy0 hro hn.2 hs.2 h.2⟩
 | [],_,_,_,_,_::_,_,_,h=>by simp [RCL] at h
 | _::_,_,_,_,_,[],_,_,h=>by simp [RCL] at h
theorem RCE_copy (hro:∀S,P S->∀b,okro κ w S b->okro κ' w' S b/\Same w w' b):∀{e:List CT} {p p':Pl} {j:Nat} {get:Nat->Value} {xs:List (List A)},CT.nowns e=true->CT.allSs P e ->
  RCE κ w e p j get xs->RCE κ' w' e p' j get xs
 | _,_,_,_,_,[],_,_,_=>by simp [RCE]
 | e,p,p',j,get,x::xs,hn,hs,h=>by
  simp only [RCE] at h ⊢;exact ⟨RCL_copy0 hro hn hs h.1,RCE_copy hro hn hs h.2⟩
end
theorem RCL_copy (hro:∀S,P S->∀b,okro κ w S b->okro κ' w' S b/\Same w w' b) {cs:List CT} {p p':Pl} {j j':Nat} {get get':Nat->Value} {as:List A} (hn:CT.nowns cs=true) (hs:CT.allSs P cs)
  (hg:∀i,i<cs.length->get' (j'+i)=get (j+i)) (h:RCL κ w cs p j get as):RCL κ' w' cs p' j' get' as:=by
 induction cs generalizing j j' as with
 | nil=>cases as with
  | nil=>simp [RCL]
  | cons=>simp [RCL] at h
 | cons c cs ih=>
  cases as with
  | nil=>simp [RCL] at h
  | cons a as=>
   simp only [CT.allSs,CT.nowns,Bool.and_eq_true,RCL] at h hs hn ⊢;refine ⟨?_,ih hn.2 hs.2 (fun i hi => ?_) h.2⟩
   ·have:=hg 0 (by simp);simp at this;rw [this];exact RC_copy hro hn.1 hs.1 h.1
   ·have:=hg (i+1) (by simpa using hi);rw [show j'+1+i=j'+(i+1) from by omega,show j+1+i=j+(i+1) from by omega];exact this
end copy
theorem RC_ne {κ:Col} {w:World} {c:CT} {p:Pl} {x:Value} {a:A} (hl:c.live=true) (h:RC κ w c p x a):x≠undef:=by
 cases c with
 | d=>
  cases a with
  | v y=>simp only [RC] at h;obtain ⟨rfl,hs⟩:=h;rintro rfl;simp [undef,sc] at hs
  | s xs=>simp [RC] at h
 | sl m e=>
  cases m with
  | dead=>simp [CT.live] at hl
  | own k=>
   cases a with
   | v y=>simp [RC] at h
   | s xs=>simp only [RC] at h;obtain ⟨_,_,rfl,_⟩:=h;simp [undef]
  | ro S=>
   cases a with
   | v y=>simp [RC] at h
   | s xs=>simp only [RC] at h;obtain ⟨_,_,rfl,_⟩:=h;simp [undef]
theorem lives_nth:∀{cs:List CT} {k:Nat} {c:CT},CT.lives cs=true->cs[k]?=some c->c.live=true
 | c::cs,0,c',h,hc=>by simp at hc;subst hc;simp only [CT.lives,Bool.and_eq_true] at h;exact h.1
 | c::cs,k+1,c',h,hc=>by simp only [CT.lives,Bool.and_eq_true] at h;exact lives_nth h.2 (by simpa using hc)
 | [],_,_,_,hc=>by simp at hc
theorem RCL_ne {κ:Col} {w:World} {cs:List CT} {p:Pl} {j:Nat} {get:Nat->Value} {as:List A} (hl:CT.lives cs=true) (h:RCL κ w cs p j get as) (k:Nat) (hk:k<cs.length):get (j+k)≠undef:=by
 have hlen:=RCL_length h;exact RC_ne (lives_nth hl (List.getElem?_eq_getElem hk)) (RCL_nth h (List.getElem?_eq_getElem hk) (List.getElem?_eq_getElem (by omega)))
theorem okro_clr {κ:Col} {w w':World} {d:Nat} {nb:Option (Nat × Pl)} (hw:Grows w w') (hnb:∀b p,nb=some (b,p)->w.heap.size<=b) (S:List Nat) (b:Nat) (h:okro κ w S b) :
  okro (recol κ (clrF d) nb) w' S b/\Same w w' b:=by
 refine ⟨⟨Nat.lt_of_lt_of_le h.1 hw.size,fun r p hr => ?_⟩,hw.same b⟩;have hr':(κ b).bind (clrF d)=some (r,p):=by
  unfold recol at hr;cases nb with
  | none=>exact hr
  | some q=>
   obtain ⟨b',p'⟩:=q;have:=hnb b' p' rfl;have:=h.1;simp only at hr;rwa [if_neg (by omega)] at hr
 cases hk:κ b with
 | none=>simp [hk] at hr'
 | some p0=>
  simp only [hk,Option.bind_some,clrF] at hr';split at hr'
  ·cases hr'
  ·cases hr';exact h.2 r p hk
theorem recol_root {κ:Col} {w:World} {d r b:Nat} {q:List Nat} (hr:r≠d) (h:κ b=some (r,q)) (_:∀b,w.heap.size<=b->κ b=none):recol κ (clrF d) none b=some (r,q):=by
 simp [recol,h,clrF,hr]
section ops
variable {ac:Nat->Nat->Value} {κ0 κ:Col} {w0 w w':World} {N:Nat} {tg:Nat->TT} {sv:Nat->AV} {tm:Nat->Value}
theorem R_data (h:R ac κ0 w0 κ w N tg sv tm) {d:Nat} (hd:d<N) {y:Value} (hy:sc y=true) (hw:Grows w w') :
  R ac κ0 w0 (recol κ (clrF d) none) w' N (setT tg d (.val false [.d])) (upd sv d (.v [.v y] [])) (upd tm d y):=
 R_set0 h hd hw (fun _ _ h=>by cases h) (TR_data hy)
theorem R_copy (h:R ac κ0 w0 κ w N tg sv tm) {d t:Nat} (hd:d<N) {ag:Bool} {cs:List CT} (ht:tg t = .val ag cs) (hn:CT.nowns cs=true) {as:List A} (hs:sv t = .v as []) :
  R ac κ0 w0 (recol κ (clrF d) none) w N (setT tg d (.val ag cs)) (upd sv d (.v as [])) (upd tm d (tm t)):=by
 refine R_set0 h hd (Grows.refl w) (fun _ _ h=>by cases h) ?_;have h1:=h.tr t;rw [ht] at h1;simp only [TR,upd_self] at h1 ⊢;obtain ⟨as',vs,g1,g2,g3,g4,g5⟩:=h1;rw [hs] at g1;cases g1;exact ⟨as,vs,rfl,g2,g3,g4,RCL_copy (P:=fun _=>True) (fun S _ b hb=>okro_clr (Grows.refl w) (fun _ _ h=>by cases h) S b hb) hn (allSs_true (fun _=>trivial) cs) (fun _ _=>rfl) g5⟩
theorem R_alias (h:R ac κ0 w0 κ w N tg sv tm) {d t:Nat} (hd:d<N) (hdt:t≠d) {ag:Bool} {cs:List CT} (ht:tg t = .val ag cs) (hl:CT.lives cs=true) {as:List A} (hs:sv t = .v as []) {S:List Nat}
  (hS:t∈S) (hS2:∀r,r∈CT.srcss cs->r∈S) :
  R ac κ0 w0 (recol κ (clrF d) none) w N (setT tg d (.alias ag (CT.roizes S cs) t [] 0 S)) (upd sv d (.v as [])) (upd tm d (tm t)):=by
 refine R_set0 h hd (Grows.refl w) (fun _ _ h=>by cases h) ?_;have h1:=h.tr t;rw [ht] at h1;simp only [TR,upd_self,setT,upd_ne _ _ _ hdt,ht,TT.kill,kill_nil] at h1 ⊢;obtain ⟨as',vs,g1,g2,g3,g4,g5⟩:=h1;rw [hs] at g1;cases g1;have hcl:=fun S b hb=>okro_clr (κ:=κ) (w:=w) (w':=w) (d:=d) (nb:=none) (Grows.refl w) (fun _ _ h=>by cases h) S b hb
 have g6:RCL κ w (CT.roizes S cs) (d,[]) 0 (fun k=>vs.getD k undef) as:=RCL_ros hl hS (srcss_allSs hS2) (fun _ _=>rfl) g5;have g7:RCL (recol κ (clrF d) none) w (CT.roizes S cs) (d,[]) 0 (fun k=>vs.getD k undef) as:=
  RCL_copy (P:=fun _=>True) (fun S _ b hb=>hcl S b hb) (roizes_nowns S cs) (allSs_true (fun _=>trivial) _) (fun _ _=>rfl) g6
 have hrg:rg w (.val ag cs) (tm t)=fun k=>vs.getD k undef:=by funext k;simp [rg,g2]
 refine ⟨as,[],vs,_,as,as,rfl,g2,by rw [roizes_length];exact g3,roizes_lives S cs,g7,by rw [hrg];rfl,by simp [PO],fun b hb=>by simp [rb] at hb,fun h=>absurd rfl h,fun k hk=>⟨by simp,?_⟩,hs,rfl,?_⟩
 ·rw [roizes_length] at hk;have:=RCL_ne hl g5 k hk;simpa using this
 ·have:=RCL_length g5;rw [roizes_length,List.drop_zero,List.take_of_length_le (by omega)]
theorem R_cpalias (h:R ac κ0 w0 κ w N tg sv tm) {d t:Nat} (hd:d<N) {ag:Bool} {cs:List CT} {r:Nat} {sk:Sk} {off:Nat} {S:List Nat} (ht:tg t = .alias ag cs r sk off S) (hr:r≠d) (hn:CT.nowns cs=true) :
  R ac κ0 w0 (recol κ (clrF d) none) w N (setT tg d (.alias ag cs r sk off S)) (upd sv d (sv t)) (upd tm d (tm t)):=by
 refine R_set0 h hd (Grows.refl w) (fun _ _ h=>by cases h) ?_;have h1:=h.tr t;rw [ht] at h1;have hcl:=fun S b hb=>okro_clr (κ:=κ) (w:=w) (w':=w) (d:=d) (nb:=none) (Grows.refl w) (fun _ _ h=>by cases h) S b hb
 simp only [TR,upd_self,setT,upd_ne _ _ _ hr,(rg_killed w [d] [] (tg r) (tm r)).2,show rg w ((tg r).kill [d] []) (tm r)=rg w (tg r) (tm r) from (rg_killed w [d] [] (tg r) (tm r)).1] at h1 ⊢;obtain ⟨as,is,vs,g,ra,row,h1,h2,h3,hl,h4,h5,h6,h7,h8,h9,h10,h11,h12⟩:=h1;have h6':PO (recol κ (clrF d) none) w S (rg w (tg r) (tm r)) sk is:=by
  cases sk with
  | nil=>simp [PO]
  | cons s sk=>
   simp only [pcell,Option.map_eq_some_iff] at h5;obtain ⟨BO,h5,_⟩:=h5;exact (wk_stay (hcl S) (fun k _=>rfl) h6 h5).2
 exact ⟨as,is,vs,g,ra,row,h1,h2,h3,hl,RCL_copy (P:=fun _=>True) (fun S _ b hb=>hcl S b hb) hn (allSs_true (fun _=>trivial) _) (fun _ _=>rfl) h4,h5,h6',fun b hb=>recol_root hr (h7 b hb) h.col,h8,h9,h10,h11,h12⟩
theorem R_cpptr (h:R ac κ0 w0 κ w N tg sv tm) {d t:Nat} (hd:d<N) {r:Nat} {sk:Sk} {off:Nat} {S:List Nat} (ht:tg t = .ptr r sk off S) (hr:r≠d) :
  R ac κ0 w0 (recol κ (clrF d) none) w N (setT tg d (.ptr r sk off S)) (upd sv d (sv t)) (upd tm d (tm t)):=by
 refine R_set0 h hd (Grows.refl w) (fun _ _ h=>by cases h) ?_;have h1:=h.tr t;rw [ht] at h1;have hcl:=fun S b hb=>okro_clr (κ:=κ) (w:=w) (w':=w) (d:=d) (nb:=none) (Grows.refl w) (fun _ _ h=>by cases h) S b hb
 simp only [TR,upd_self,setT,upd_ne _ _ _ hr,(rg_killed w [d] [] (tg r) (tm r)).2,show rg w ((tg r).kill [d] []) (tm r)=rg w (tg r) (tm r) from (rg_killed w [d] [] (tg r) (tm r)).1] at h1 ⊢;obtain ⟨is,B,O,h1,h2,h3,h4,h5⟩:=h1;exact ⟨is,B,O,h1,h2,(wk_stay (hcl S) (fun k _=>rfl) h3 h2).2,fun b hb=>recol_root hr (h4 b hb) h.col,h5⟩
theorem R_ptr (h:R ac κ0 w0 κ w N tg sv tm) {d t:Nat} (hd:d<N) (hdt:t≠d) {cs:List CT} (ht:tg t = .box cs) :
  R ac κ0 w0 (recol κ (clrF d) none) w N (setT tg d (.ptr t [] 0 [t])) (upd sv d (.p [])) (upd tm d (tm t)):=by
 refine R_set0 h hd (Grows.refl w) (fun _ _ h=>by cases h) ?_;have h1:=h.tr t;rw [ht] at h1;have hcl:=fun S b hb=>okro_clr (κ:=κ) (w:=w) (w':=w) (d:=d) (nb:=none) (Grows.refl w) (fun _ _ h=>by cases h) S b hb
 simp only [TR,upd_self,setT,upd_ne _ _ _ hdt,ht,TT.kill] at h1 ⊢;obtain ⟨as,b,g1,g2,g3,g4,g5,g6,g7⟩:=h1;rw [g2];exact ⟨[],b,0,rfl,by simp [paddr,rb,wk],by simp [PO],fun b' hb'=>by simp [rb] at hb';subst hb';exact recol_root hdt g4 h.col,rfl⟩
end ops
end Go.Fw
namespace Go.Fw
def mvF (srcs:List Nat) (d:Nat) (f:Nat->Nat->Option (List Nat)) (p:Pl):Option Pl:=
 if p.1∈srcs then match p.2 with
  | k::q=>(f p.1 k).map fun P=>(d,P++q)
  | []=>none
 else if p.1=d then none else some p
theorem okro_recol {κ:Col} {w w':World} {F:Pl->Option Pl} {nb:Option (Nat × Pl)} {M S:List Nat} (hw:Grows w w') (hM:∀r q p,F (r,q)=some p->r∉M->p=(r,q))
  (hnb:∀b p,nb=some (b,p)->w.heap.size<=b) (hS:∀m,m∈M->m∉S) (b:Nat) (h:okro κ w S b):okro (recol κ F nb) w' S b/\Same w w' b:=by
 refine ⟨⟨Nat.lt_of_lt_of_le h.1 hw.size,fun r p hr => ?_⟩,hw.same b⟩;have hr':(κ b).bind F=some (r,p):=by
  unfold recol at hr;cases nb with
  | none=>exact hr
  | some q=>
   obtain ⟨b',p'⟩:=q;have:=hnb b' p' rfl;have:=h.1;simp only at hr;rwa [if_neg (by omega)] at hr
 cases hk:κ b with
 | none=>simp [hk] at hr'
 | some p0=>
  obtain ⟨r0,q0⟩:=p0;simp only [hk,Option.bind_some] at hr';by_cases hm:r0∈M
  ·exact absurd (h.2 r0 q0 hk).1 (hS r0 hm)
  ·have:=hM r0 q0 _ hr' hm;cases this;exact h.2 _ _ hk
theorem recol_old {κ:Col} {w:World} {F:Pl->Option Pl} {nb:Option (Nat × Pl)} (hnb:∀b p,nb=some (b,p)->w.heap.size<=b) (hc:∀b,w.heap.size<=b->κ b=none) {b:Nat} {p:Pl} (h:κ b=some p) :
  recol κ F nb b=F p:=by
 have hb:b<w.heap.size:=by
  apply Nat.lt_of_not_le;intro hle;rw [hc b hle] at h;cases h
 unfold recol;cases nb with
 | none=>simp [h]
 | some q=>
  obtain ⟨b',p'⟩:=q;have:=hnb b' p' rfl;simp only;rw [if_neg (by omega),h];rfl
theorem mvF_M {srcs:List Nat} {d:Nat} {f:Nat->Nat->Option (List Nat)}:∀r q p,mvF srcs d f (r,q)=some p->r∉srcs->p=(r,q):=by
 intro r q p h hr;unfold mvF at h;simp only [hr,if_false] at h;split at h
 ·cases h
 ·cases h;rfl
structure Part (κ:Col) (w:World) (srcs:List Nat) (t:Nat) (cs:List CT) (vs:List Value) (as:List A):Prop where
 row:RCL κ w cs (t,[]) 0 (fun k=>vs.getD k undef) as
 len:vs.length=cs.length
 own:t∈srcs\/CT.nowns cs=true
 men:CT.mens srcs cs=false
section
variable {ac:Nat->Nat->Value} {κ0 κ:Col} {w0 w w':World} {N:Nat} {tg:Nat->TT} {sv:Nat->AV} {tm:Nat->Value}
theorem part_place {srcs:List Nat} {d t:Nat} {f:Nat->Nat->Option (List Nat)} {nb:Option (Nat × Pl)} {Q:List Nat} {off:Nat} {cs:List CT} {vs:List Value} {as:List A} {get:Nat->Value}
  (hw:Grows w w') (hnb:∀b p,nb=some (b,p)->w.heap.size<=b) (hc:∀b,w.heap.size<=b->κ b=none) (hp:Part κ w srcs t cs vs as)
  (hf:∀k,k<cs.length->t∈srcs->f t k=some (Q++[off+k])) (hg:∀i,i<cs.length->get (off+i)=vs.getD i undef) :
  RCL (recol κ (mvF srcs d f) nb) w' cs (d,Q) off get as:=by
 have hro:∀S,(∀m,m∈srcs->m∉S)->∀b,okro κ w S b->okro (recol κ (mvF srcs d f) nb) w' S b/\Same w w' b:=
  fun S hS b hb=>okro_recol hw mvF_M hnb hS b hb
 have hs:CT.allSs (fun S=>∀m,m∈srcs->m∉S) cs:=mens_allSs (fun S hS=>hS) hp.men;by_cases ht:t∈srcs
 ·have:=RCL_moves (f:=id) (κ':=recol κ (mvF srcs d f) nb) (w':=w') (p':=(d,Q)) (get':=get) (j':=off) hro hs (fun i hi b q hb=>⟨?_,hw.same b⟩) (fun i hi=>by simpa using hg i hi) hp.row
  ·rwa [mapSs_id] at this
  ·rw [recol_old hnb hc hb];simp only [mvF,ht,if_true,List.nil_append,Nat.zero_add];rw [hf i hi ht];simp
 ·have hn:CT.nowns cs=true:=hp.own.resolve_left ht;exact RCL_copy hro hn hs (fun i hi=>by simpa using hg i hi) hp.row
theorem R_setmv (h:R ac κ0 w0 κ w N tg sv tm) {d:Nat} (hd:d<N) {srcs:List Nat} (hsf:FB∉srcs) {f:Nat->Nat->Option (List Nat)} {tag:TT} {av:AV} {x:Value} {nb:Option (Nat × Pl)} (hw:Grows w w')
  (hnb:∀b p,nb=some (b,p)->w.heap.size<=b/\b<w'.heap.size) {tg':Nat->TT} (htg:tg'=upd (fun t=>if t∈srcs then .dead else (tg t).kill (d::srcs) srcs) d tag)
  (ht:TR ac (recol κ (mvF srcs d f) nb) w' tg' (upd sv d av) (upd tm d x) d tag) :
  R ac κ0 w0 (recol κ (mvF srcs d f) nb) w' N tg' (upd sv d av) (upd tm d x):=by
 subst htg;refine R_mv (mods:=d::srcs) (M:=srcs) h (by have:=h.nle;simp only [List.mem_cons,not_or];exact ⟨by omega,hsf⟩) hw (fun r q hr => ?_) mvF_M hnb (fun r hr => ?_) (fun r hr => ?_) (fun r hr => ?_) (fun t ht' => ?_) (fun t htN => ?_)
 ·simp at hr;simp [mvF,hr]
 ·simp at hr;simp [upd,hr]
 ·simp at hr;simp [upd,hr]
 ·simp at hr;simp [upd,hr]
 ·by_cases htd:t=d
  ·subst htd;simpa [upd] using ht
  ·simp [htd] at ht';simp [upd,htd,ht',TR]
 ·have hne:t≠d:=by omega
  simp only [upd,hne,if_false];split
  ·rfl
  ·simp [h.out t htN,TT.kill]
theorem R_move (h:R ac κ0 w0 κ w N tg sv tm) {d t:Nat} (hd:d<N) (htN:t<N) {ag:Bool} {cs:List CT} (ht:tg t = .val ag cs) (hm:CT.mens [t] cs=false) {as:List A} (hs:sv t = .v as []) :
  R ac κ0 w0 (recol κ (mvF [t] d fun _ k=>some [k]) none) w N (upd (fun u=>if u∈[t] then .dead else (tg u).kill [d,t] [t]) d (.val ag cs)) (upd sv d (.v as [])) (upd tm d (tm t)):=by
 refine R_setmv h hd (by have:=h.nle;simp;omega) (Grows.refl w) (fun _ _ h=>by cases h) rfl ?_;have h1:=h.tr t;rw [ht] at h1;simp only [TR,upd_self] at h1 ⊢;obtain ⟨as',vs,g1,g2,g3,g4,g5⟩:=h1;rw [hs] at g1;cases g1;exact ⟨as,vs,rfl,g2,g3,g4,part_place (Grows.refl w) (fun _ _ h=>by cases h) h.col ⟨g5,g3,.inl (by simp),hm⟩ (fun k _ _=>by simp) (fun i _=>by simp)⟩
theorem R_movet (h:R ac κ0 w0 κ w N tg sv tm) {d t:Nat} (hd:d<N) (htN:t<N) {ws:List (Bool × Nat)} {cs:List CT} (ht:tg t = .tup ws cs) (hm:CT.mens [t] cs=false) {as:List A} (hs:sv t = .v as []) :
  R ac κ0 w0 (recol κ (mvF [t] d fun _ k=>some [k]) none) w N (upd (fun u=>if u∈[t] then .dead else (tg u).kill [d,t] [t]) d (.tup ws cs)) (upd sv d (.v as [])) (upd tm d (tm t)):=by
 refine R_setmv h hd (by have:=h.nle;simp;omega) (Grows.refl w) (fun _ _ h=>by cases h) rfl ?_;have h1:=h.tr t;rw [ht] at h1;simp only [TR,upd_self] at h1 ⊢;obtain ⟨as',xs,vs,g1,g2,g3,g4,g5⟩:=h1;rw [hs] at g1;cases g1;exact ⟨as,xs,vs,rfl,g2,g3,g4,part_place (Grows.refl w) (fun _ _ h=>by cases h) h.col ⟨g5,g4,.inl (by simp),hm⟩ (fun k _ _=>by simp) (fun i _=>by simp)⟩
theorem R_box (h:R ac κ0 w0 κ w N tg sv tm) {d t:Nat} (hd:d<N) {srcs:List Nat} (hsf:FB∉srcs) {cs:List CT} {vs:List Value} {as:List A} (hp:Part κ w srcs t cs vs as) (hpin:Pins ac cs fun k=>vs.getD k undef)
  {cells:Array Value} (hcells:cells.toList=vs) (ty:TypeId) :
  R ac κ0 w0 (recol κ (mvF srcs d fun _ k=>some [k]) (some (w.heap.size,(d,[])))) (pushW w cells ty) N (upd (fun u=>if u∈srcs then .dead else (tg u).kill (d::srcs) srcs) d (.box cs))
   (upd sv d (.v as [])) (upd tm d (.pointer (some ⟨w.heap.size,0,none⟩))):=by
 have hsz:cells.size=cs.length:=by rw [<-hp.len,<-hcells];simp
 refine R_setmv h hd hsf (pushW_grows w cells ty) (fun b p h=>by cases h;simp [pushW]) rfl ?_;simp only [TR,upd_self];have hcd:∀i,cellD (pushW w cells ty) w.heap.size i=vs.getD i undef:=fun i=>by rw [pushW_cellD,hcells]
 refine ⟨as,w.heap.size,rfl,rfl,by simp [pushW],by simp [recol],pushW_wrb w cells ty 0 _ (by omega),?_,?_⟩
 ·intro k j c e hk;rw [hcd];exact hpin k j c e hk
 ·exact part_place (pushW_grows w cells ty) (fun b p h=>by cases h;exact Nat.le_refl _) h.col hp (fun k _ _=>by simp) (fun i _=>by rw [Nat.zero_add];exact hcd i)
end
end Go.Fw
namespace Go.Fw
theorem RCL_splice {κ:Col} {w:World} {p:Pl} {C cs:List CT} {V vs:List Value} {As as:List A} {off:Nat} (h:RCL κ w C p 0 (fun k=>V.getD k undef) As) (hV:V.length=C.length)
  (h':RCL κ w cs p off (fun k=>vs.getD (k-off) undef) as) (hl:vs.length=cs.length) (ho:off+cs.length<=C.length) :
  RCL κ w (splice C off cs) p 0 (fun k=>(splice V off vs).getD k undef) (splice As off as):=by
 have hA:=RCL_length h;have ha:=RCL_length h';unfold splice;have h1:=RCL_take off h;have h3:=RCL_drop (off+cs.length) h;refine RCL_append (RCL_get (fun i _ hi => ?_) h1) (RCL_append (RCL_get (get:=fun k=>vs.getD (k-off) undef) (fun i h2 hi => ?_) ?_) (RCL_get (get:=fun k=>V.getD k undef) (fun i h2 hi => ?_) ?_))
 ·simp at hi;simp only [List.getD_eq_getElem?_getD];rw [List.getElem?_append_left (by simp;omega),List.getElem?_take_of_lt (by omega)]
 ·simp at h2 hi;simp only [List.getD_eq_getElem?_getD];rw [List.getElem?_append_right (by simp;omega),List.getElem?_append_left (by simp;omega)];congr 2;simp;omega
 ·rw [show 0+(List.take off C).length=off from by simp;omega];exact h'
 ·simp at h2 hi;simp only [List.getD_eq_getElem?_getD];rw [List.getElem?_append_right (by simp;omega),List.getElem?_append_right (by simp;omega),List.getElem?_drop];congr 2;simp;omega
 ·rw [show 0+(List.take off C).length+cs.length=0+(off+cs.length) from by simp;omega,ha];exact h3
def ZR:List CT->List Value->List A->Prop
 | [],[],[]=>True
 | .d::cs,x::vs,.v y::as=>x=y/\sc y=true/\ZR cs vs as
 | .sl _ _::cs,x::vs,.s []::as=>x = .slice none 0 0/\ZR cs vs as
 | _,_,_=>False
theorem ZR_RCL {κ:Col} {w:World} {p:Pl}:∀{cs:List CT} {vs:List Value} {as:List A} {j:Nat} {get:Nat->Value},ZR cs vs as->(∀i,i<cs.length->get (j+i)=vs.getD i undef)->RCL κ w cs p j get as
 | [],[],[],_,_,_,_=>by simp [RCL]
 | .d::cs,x::vs,.v y::as,j,get,h,hg=>by
  simp only [ZR] at h;simp only [RCL,RC];refine ⟨⟨?_,h.2.1⟩,ZR_RCL h.2.2 fun i hi => ?_⟩
  ·have:=hg 0 (by simp);simp at this;rw [this];exact h.1
  ·have:=hg (i+1) (by simpa using hi);rw [show j+1+i=j+(i+1) from by omega];simpa using this
 | .sl m e::cs,x::vs,.s []::as,j,get,h,hg=>by
  simp only [ZR] at h;simp only [RCL];refine ⟨?_,ZR_RCL h.2 fun i hi => ?_⟩
  ·have:=hg 0 (by simp);simp at this;rw [this,h.1];cases m with
   | dead=>simp [RC]
   | own k=>simp only [RC];exact ⟨none,0,by simp,by simp,.inl ⟨rfl,rfl⟩⟩
   | ro S=>simp only [RC];exact ⟨none,0,by simp,by simp,.inl trivial⟩
  ·have:=hg (i+1) (by simpa using hi);rw [show j+1+i=j+(i+1) from by omega];simpa using this
 | [],[],_::_,_,_,h,_=>by simp [ZR] at h
 | [],_::_,_,_,_,h,_=>by simp [ZR] at h
 | .d::_,[],_,_,_,h,_=>by simp [ZR] at h
 | .d::_,_::_,[],_,_,h,_=>by simp [ZR] at h
 | .d::_,_::_,.s _::_,_,_,h,_=>by simp [ZR] at h
 | .sl _ _::_,[],_,_,_,h,_=>by simp [ZR] at h
 | .sl _ _::_,_::_,[],_,_,h,_=>by simp [ZR] at h
 | .sl _ _::_,_::_,.v _::_,_,_,h,_=>by simp [ZR] at h
 | .sl _ _::_,_::_,.s (_::_)::_,_,_,h,_=>by simp [ZR] at h
theorem ZR_len:∀{cs:List CT} {vs:List Value} {as:List A},ZR cs vs as->vs.length=cs.length
 | [],[],[],_=>rfl
 | .d::cs,x::vs,.v y::as,h=>by simp only [ZR] at h;simp [ZR_len h.2.2]
 | .sl m e::cs,x::vs,.s []::as,h=>by simp only [ZR] at h;simp [ZR_len h.2]
 | [],[],_::_,h=>by simp [ZR] at h
 | [],_::_,_,h=>by simp [ZR] at h
 | .d::_,[],_,h=>by simp [ZR] at h
 | .d::_,_::_,[],h=>by simp [ZR] at h
 | .d::_,_::_,.s _::_,h=>by simp [ZR] at h
 | .sl _ _::_,[],_,h=>by simp [ZR] at h
 | .sl _ _::_,_::_,[],h=>by simp [ZR] at h
 | .sl _ _::_,_::_,.v _::_,h=>by simp [ZR] at h
 | .sl _ _::_,_::_,.s (_::_)::_,h=>by simp [ZR] at h
def noPin (cs:List CT):Bool:=cs.all fun c=>match c with
 | .sl (.own (some _)) _=>false
 | _=>true
theorem noPin_pins {ac:Nat->Nat->Value} {cs:List CT} {get:Nat->Value} (h:noPin cs=true):Pins ac cs get:=by
 intro k j c e hk;have:=List.all_eq_true.1 h _ (List.mem_of_getElem? hk);simp at this
structure Pt where
 off:Nat
 t:Nat
 cs:List CT
 vs:List Value
 as:List A
def splices {α:Type} (sel:Pt->List α):List α->List Pt->List α
 | l,[]=>l
 | l,p::ps=>splices sel (splice l p.off (sel p)) ps
def fitP (n:Nat) (ps:List Pt):Prop:=∀p,p∈ps->p.off+p.cs.length<=n
theorem build_row {κ:Col} {w:World} {pl:Pl}:∀{ps:List Pt} {C:List CT} {V:List Value} {As:List A},RCL κ w C pl 0 (fun k=>V.getD k undef) As->V.length=C.length->fitP C.length ps ->
  (∀p,p∈ps->RCL κ w p.cs pl p.off (fun k=>p.vs.getD (k-p.off) undef) p.as/\p.vs.length=p.cs.length) ->
  RCL κ w (splices Pt.cs C ps) pl 0 (fun k=>(splices Pt.vs V ps).getD k undef) (splices Pt.as As ps)/\(splices Pt.vs V ps).length=(splices Pt.cs C ps).length
 | [],C,V,As,h,hV,_,_=>⟨h,hV⟩
 | p::ps,C,V,As,h,hV,hf,hp=>by
  obtain ⟨h1,h2⟩:=hp p (by simp);have h3:=hf p (by simp);simp only [splices];have hC:(splice C p.off p.cs).length=C.length:=splice_length h3;refine build_row (RCL_splice h hV h1 h2 h3) ?_ (fun q hq=>by rw [hC];exact hf q (by simp [hq])) fun q hq=>hp q (by simp [hq])
  rw [hC,splice_length (by omega),hV]
section
variable {ac:Nat->Nat->Value} {κ0 κ:Col} {w0 w w':World} {N:Nat} {tg:Nat->TT} {sv:Nat->AV} {tm:Nat->Value}
def ptF (Q:Nat->Nat->List Nat) (ps:List Pt) (t k:Nat):Option (List Nat):=(ps.find? fun p=>p.t == t).map fun p=>Q p.off k
def Once1 (srcs:List Nat) (ps:List Pt):Prop:=∀p,p∈ps->p.t∈srcs->ps.find? (fun q=>q.t == p.t)=some p
theorem R_build (h:R ac κ0 w0 κ w N tg sv tm) {d:Nat} (hd:d<N) {srcs:List Nat} (hsf:FB∉srcs) {Z:List CT} {ZV:List Value} {ZA:List A} (hz:ZR Z ZV ZA) {ps:List Pt}
  (hp:∀p,p∈ps->Part κ w srcs p.t p.cs p.vs p.as) (ho:Once1 srcs ps) (hf:fitP Z.length ps) (hpin:noPin (splices Pt.cs Z ps)=true) :
  R ac κ0 w0 (recol κ (mvF srcs d (ptF (fun o k=>[o+k]) ps)) none) w N (upd (fun u=>if u∈srcs then .dead else (tg u).kill (d::srcs) srcs) d (.val true (splices Pt.cs Z ps)))
   (upd sv d (.v (splices Pt.as ZA ps) [])) (upd tm d (.agg (splices Pt.vs ZV ps).toArray)):=by
 refine R_setmv h hd hsf (Grows.refl w) (fun b p h=>by cases h) rfl ?_;simp only [TR,upd_self];have hrow:=build_row (κ:=recol κ (mvF srcs d (ptF (fun o k=>[o+k]) ps)) none) (w:=w) (pl:=(d,[])) (ps:=ps) (C:=Z) (V:=ZV) (As:=ZA) (ZR_RCL hz fun i _=>by simp) (ZR_len hz) hf (fun p hpp=>
  ⟨part_place (Grows.refl w) (fun _ _ h=>by cases h) h.col (hp p hpp) (fun k hk ht=>by simp [ptF,ho p hpp ht]) (fun i _=>by simp),(hp p hpp).len⟩)
 exact ⟨_,_,rfl,rfl,hrow.2,noPin_pins hpin,hrow.1⟩
theorem R_slice1 (h:R ac κ0 w0 κ w N tg sv tm) {d:Nat} (hd:d<N) {srcs:List Nat} (hsf:FB∉srcs) {f:Nat->Nat->Option (List Nat)} {e:List CT} {xs:List (List A)} {cells:Array Value} {ty:TypeId} {cap:Nat}
  (hcap:xs.length<=cap) (hsz:cap*e.length<=cells.size)
  (hrow:∀(κ':Col) (w':World),κ'=recol κ (mvF srcs d f) (some (w.heap.size,(d,[0])))->w'=pushW w cells ty->RCE κ' w' e (d,[0]) 0 (fun k=>cells.toList.getD k undef) xs) :
  R ac κ0 w0 (recol κ (mvF srcs d f) (some (w.heap.size,(d,[0])))) (pushW w cells ty) N (upd (fun u=>if u∈srcs then .dead else (tg u).kill (d::srcs) srcs) d (.val false [.sl (.own none) e]))
   (upd sv d (.v [.s xs] [])) (upd tm d (.slice (some ⟨w.heap.size,0,none⟩) xs.length cap)):=by
 refine R_setmv h hd hsf (pushW_grows w cells ty) (fun b p h=>by cases h;simp [pushW]) rfl ?_;simp only [TR,upd_self];refine ⟨_,[.slice (some ⟨w.heap.size,0,none⟩) xs.length cap],rfl,rfl,rfl,?_,?_⟩
 ·intro k j c e hk;cases k<;>simp at hk
 ·simp only [RCL,RC];refine ⟨⟨_,cap,by simp,hcap,.inr ⟨w.heap.size,0,rfl,by simp [pushW],by simp [recol,Pl.at],pushW_wrb w cells ty 0 _ (by omega),?_⟩⟩,trivial⟩;have:=hrow _ _ rfl rfl;simp only [Nat.zero_add,pushW_cellD];simpa [Pl.at] using this
end
end Go.Fw
namespace Go.Fw
structure Pla (κ:Col) (w:World) (tg:Nat->TT) (tm:Nat->Value) (r:Nat) (sk:Sk) (is S:List Nat) (B O:Nat):Prop where
 addr:paddr w (rg w (tg r) (tm r)) (rb (tg r) (tm r)) sk is=some (B,O)
 po:PO κ w S (rg w (tg r) (tm r)) sk is
 root:∀b,rb (tg r) (tm r)=some b->κ b=some (r,[])
def TT.cts:TT->Option (List CT)
 | .val _ cs=>some cs
 | .box cs=>some cs
 | _=>none
section
variable {ac:Nat->Nat->Value} {κ0 κ:Col} {w0 w w':World} {N:Nat} {tg:Nat->TT} {sv:Nat->AV} {tm:Nat->Value}
theorem R.pla_ptr (h:R ac κ0 w0 κ w N tg sv tm) {t r:Nat} {sk:Sk} {off:Nat} {S is:List Nat} (ht:tg t = .ptr r sk off S) (hs:sv t = .p is) :
  ∃B O,Pla κ w tg tm r sk is S B O/\tm t = .pointer (some ⟨B,O+off,none⟩):=by
 have h1:=h.tr t;rw [ht] at h1;simp only [TR] at h1;obtain ⟨is',B,O,g1,g2,g3,g4,g5⟩:=h1;rw [hs] at g1;cases g1;exact ⟨B,O,⟨g2,g3,g4⟩,g5⟩
theorem R.pla_box (h:R ac κ0 w0 κ w N tg sv tm) {t:Nat} {cs:List CT} (ht:tg t = .box cs) :
  ∃B,Pla κ w tg tm t [] [] [t] B 0/\tm t = .pointer (some ⟨B,0+0,none⟩):=by
 have h1:=h.tr t;rw [ht] at h1;simp only [TR] at h1;obtain ⟨as,b,g1,g2,g3,g4,g5,g6,g7⟩:=h1;refine ⟨b,⟨by simp [paddr,wk,rb,ht,g2],by simp [PO],fun b' hb' => ?_⟩,g2⟩;simp [rb,ht,g2] at hb';subst hb';exact g4
theorem R.root (h:R ac κ0 w0 κ w N tg sv tm) {r:Nat} {cs:List CT} (ht:(tg r).cts=some cs) {ra:List A} (hs:sv r = .v ra []) :
  RCL κ w cs (r,[]) 0 (rg w (tg r) (tm r)) ra:=by
 have h1:=h.tr r;cases hT:tg r with
 | val ag cs'=>
  rw [hT] at h1 ht;simp only [TT.cts,Option.some.injEq] at ht;subst ht;simp only [TR] at h1;obtain ⟨as,vs,g1,g2,g3,g4,g5⟩:=h1;rw [hs] at g1;cases g1;have:rg w (.val ag cs') (tm r)=fun k=>vs.getD k undef:=by funext k;simp [rg,g2]
  rw [this];exact g5
 | box cs'=>
  rw [hT] at h1 ht;simp only [TT.cts,Option.some.injEq] at ht;subst ht;simp only [TR] at h1;obtain ⟨as,b,g1,g2,g3,g4,g5,g6,g7⟩:=h1;rw [hs] at g1;cases g1;have:rg w (.box cs') (tm r)=cellD w b:=by funext k;simp [rg,g2]
  rw [this];exact g7
 | dead=>rw [hT] at ht;simp [TT.cts] at ht
 | alias=>rw [hT] at ht;simp [TT.cts] at ht
 | ptr=>rw [hT] at ht;simp [TT.cts] at ht
 | tup=>rw [hT] at ht;simp [TT.cts] at ht
theorem R.row (h:R ac κ0 w0 κ w N tg sv tm) {r:Nat} {cs e:List CT} {sk:Sk} {is S:List Nat} {B O:Nat} (ht:(tg r).cts=some cs) {ra row:List A} (hs:sv r = .v ra [])
  (hp:Pla κ w tg tm r sk is S B O) (he:tagL false cs sk=some e) (hl:lookL ra sk is=some row) :
  ∃o p j,O=o+j/\Rdb w B O (O+e.length)/\RCL κ w e (r,p) j (fun k=>cellD w B (o+k)) row:=by
 have h0:=h.root ht hs;cases sk with
 | nil=>
  cases is with
  | cons=>simp [lookL] at hl
  | nil=>
   simp only [lookL,Option.some.injEq,tagL] at hl he;subst hl;subst he;have ha:=hp.addr;simp only [paddr,wk,Option.map_eq_some_iff] at ha;obtain ⟨b,hb,hbo⟩:=ha;simp only [Prod.mk.injEq] at hbo;obtain ⟨rfl,rfl⟩:=hbo;cases hT:tg r with
   | box cs'=>
    have h1:=h.tr r;rw [hT] at h1 ht;simp only [TT.cts,Option.some.injEq] at ht;subst ht;simp only [TR] at h1;obtain ⟨as,b',g1,g2,g3,g4,g5,g6,g7⟩:=h1;rw [hs] at g1;cases g1;simp [rb,hT,g2] at hb;subst hb;refine ⟨0,[],0,rfl,by simpa using g5.rdb,?_⟩;simpa using g7
   | _=>rw [hT] at hb;simp [rb] at hb
 | cons s sk=>
  obtain ⟨b,o,g1,g2,g3⟩:=foc_ro (bo:=(rb (tg r) (tm r)).map fun b=>(b,0)) (by simp) h0 he hl;have ha:=hp.addr;simp only [paddr] at ha;simp only [Nat.zero_add] at g1;rw [ha] at g1;simp only [Option.some.injEq,Prod.mk.injEq] at g1;obtain ⟨rfl,rfl⟩:=g1;exact ⟨o,_,_,rfl,g2,g3⟩
theorem getD_map_range {n:Nat} {f:Nat->Value} {k:Nat} (hk:k<n):((List.range n).map f).getD k undef=f k:=by
 simp [hk]
theorem cellsOf_load {g:Bool} {v:Value} {n:Nat} {f:Nat->Value} (h1:g=true->v = .agg ((List.range n).map f).toArray) (h0:g=false->v=f 0/\n=1) (hs:g=false->∀vs,f 0≠.agg vs/\f 0≠.tuple vs) :
  cellsOf g v=some ((List.range n).map f):=by
 cases g with
 | true=>rw [h1 rfl];simp [cellsOf]
 | false=>
  obtain ⟨rfl,rfl⟩:=h0 rfl;have:=hs rfl;cases hf:f 0 with
  | agg vs=>exact absurd hf (this vs).1
  | tuple vs=>exact absurd hf (this vs).2
  | _=>simp [cellsOf,hf]
theorem RC_flat {κ:Col} {w:World} {c:CT} {p:Pl} {x:Value} {a:A} (hl:c.live=true) (h:RC κ w c p x a):oneC x=true:=by
 cases c with
 | d=>
  cases a with
  | v y=>simp only [RC] at h;obtain ⟨rfl,hs⟩:=h;cases x<;>simp_all [sc,oneC]
  | s xs=>simp [RC] at h
 | sl m e=>
  cases m with
  | dead=>simp [CT.live] at hl
  | own k=>
   cases a with
   | v y=>simp [RC] at h
   | s xs=>simp only [RC] at h;obtain ⟨_,_,rfl,_⟩:=h;simp [oneC]
  | ro S=>
   cases a with
   | v y=>simp [RC] at h
   | s xs=>simp only [RC] at h;obtain ⟨_,_,rfl,_⟩:=h;simp [oneC]
theorem oneC_ne {x:Value} (h:oneC x=true):∀vs,x≠.agg vs/\x≠.tuple vs:=by
 intro vs;constructor<;>(rintro rfl;simp [oneC] at h)
theorem R_load (h:R ac κ0 w0 κ w N tg sv tm) {d r:Nat} (hd:d<N) {cs e:List CT} {sk:Sk} {is S:List Nat} {B O off n:Nat} (ht:(tg r).cts=some cs) {ra row:List A} (hs:sv r = .v ra [])
  (hp:Pla κ w tg tm r sk is S B O) (he:tagL false cs sk=some e) (hl:lookL ra sk is=some row) (hn:off+n<=e.length) (hnown:CT.nowns ((e.drop off).take n)=true) (hnp:noPin ((e.drop off).take n)=true)
  {g:Bool} {v:Value} (h1:g=true->v = .agg ((List.range n).map fun k=>cellD w B (O+off+k)).toArray) (h0:g=false->v=cellD w B (O+off)/\n=1) (hlive:CT.lives ((e.drop off).take n)=true) :
  R ac κ0 w0 (recol κ (clrF d) none) w N (setT tg d (.val g ((e.drop off).take n))) (upd sv d (.v ((row.drop off).take n) [])) (upd tm d v):=by
 obtain ⟨o,p,j,rfl,hr,hrow⟩:=h.row ht hs hp he hl;have hsub:=RCL_take n (RCL_drop off hrow);have hlen:((e.drop off).take n).length=n:=by simp;omega
 have hget:∀i,i<((e.drop off).take n).length->((List.range n).map fun k=>cellD w B (o+j+off+k)).getD (0+i) undef=cellD w B (o+(j+off+i)):=by
  intro i hi;rw [hlen] at hi;rw [Nat.zero_add,getD_map_range hi];congr 1;omega
 refine R_set0 h hd (Grows.refl w) (fun _ _ h=>by cases h) ?_;simp only [TR,upd_self];refine ⟨_,(List.range n).map fun k=>cellD w B (o+j+off+k),rfl,?_,by simp [hlen],noPin_pins hnp,?_⟩
 ·refine cellsOf_load h1 h0 fun hg => ?_
  have hn1:=(h0 hg).2;have:=RCL_nth (k:=0) hsub (List.getElem?_eq_getElem (by omega)) (List.getElem?_eq_getElem (by rw [RCL_length hsub];omega));have hf:=RC_flat (lives_nth hlive (List.getElem?_eq_getElem (by omega))) this;have:=oneC_ne hf;simpa [Nat.add_assoc] using this
 ·exact RCL_copy (P:=fun _=>True) (fun S _ b hb=>okro_clr (Grows.refl w) (fun _ _ h=>by cases h) S b hb) hnown (allSs_true (fun _=>trivial) _) (fun i hi=>hget i hi) hsub
theorem R_loada (h:R ac κ0 w0 κ w N tg sv tm) {d r:Nat} (hd:d<N) (hdr:r≠d) {cs e:List CT} {sk:Sk} {is S S':List Nat} {B O off n:Nat} (ht:(tg r).cts=some cs) {ra row:List A} (hs:sv r = .v ra [])
  (hp:Pla κ w tg tm r sk is S B O) (he:tagL false cs sk=some e) (hl:lookL ra sk is=some row) (hn:off+n<=e.length)
  {g:Bool} {v:Value} (h1:g=true->v = .agg ((List.range n).map fun k=>cellD w B (O+off+k)).toArray) (h0:g=false->v=cellD w B (O+off)/\n=1) (hlive:CT.lives ((e.drop off).take n)=true)
  (hr:r∈S') (hS:∀q,q∈S->q∈S') (hS2:∀q,q∈CT.srcss ((e.drop off).take n)->q∈S') :
  R ac κ0 w0 (recol κ (clrF d) none) w N (setT tg d (.alias g (CT.roizes S' ((e.drop off).take n)) r sk off S')) (upd sv d (.v ((row.drop off).take n) is)) (upd tm d v):=by
 have hp':=hp;obtain ⟨o,p,j,hO,hrd,hrow⟩:=h.row ht hs hp he hl;subst hO;have hsub:=RCL_take n (RCL_drop off hrow);have hlen:((e.drop off).take n).length=n:=by simp;omega
 have hget:∀i,i<((e.drop off).take n).length->((List.range n).map fun k=>cellD w B (o+j+off+k)).getD (0+i) undef=cellD w B (o+(j+off+i)):=by
  intro i hi;rw [hlen] at hi;rw [Nat.zero_add,getD_map_range hi];congr 1;omega
 have hcl:=fun S b hb=>okro_clr (κ:=κ) (w:=w) (w':=w) (d:=d) (nb:=none) (Grows.refl w) (fun _ _ h=>by cases h) S b hb
 refine R_set0 h hd (Grows.refl w) (fun _ _ h=>by cases h) ?_;simp only [TR,upd_self,setT,upd_ne _ _ _ hdr,(rg_killed w [d] [] (tg r) (tm r)).2,show rg w ((tg r).kill [d] []) (tm r)=rg w (tg r) (tm r) from (rg_killed w [d] [] (tg r) (tm r)).1];have hpo:PO κ w S' (rg w (tg r) (tm r)) sk is:=PO_mono hS hp.po;have hpo':PO (recol κ (clrF d) none) w S' (rg w (tg r) (tm r)) sk is:=(wk_stay (hcl S') (fun k _=>rfl) hpo hp.addr).2;have g6:RCL κ w (CT.roizes S' ((e.drop off).take n)) (d,[]) 0 (fun k=>((List.range n).map fun k=>cellD w B (o+j+off+k)).getD k undef) ((row.drop off).take n):=
  RCL_ros hlive hr (srcss_allSs hS2) (fun i hi=>hget i hi) hsub
 have hne:∀k,k<n->cellD w B (o+j+off+k)≠undef:=by
  intro k hk;have:=RCL_ne hlive hsub k (by rw [hlen];exact hk);simpa [Nat.add_assoc] using this
 obtain ⟨gf,hgf,hgk⟩:∃gf,pcell w (rg w (tg r) (tm r)) sk is=some gf/\∀k,k<n->gf (off+k)=cellD w B (o+j+off+k):=by
  cases sk with
  | nil=>
   cases is with
   | cons=>simp [lookL] at hl
   | nil=>
    refine ⟨_,rfl,fun k hk => ?_⟩;have ha:=hp.addr;simp only [paddr,wk,Option.map_eq_some_iff,Prod.mk.injEq] at ha;obtain ⟨b,hb,rfl,h00⟩:=ha;have:o+j=0:=by omega
    rw [this,Nat.zero_add];cases hT:tg r with
    | box cs'=>
     rw [hT] at hb;cases hx:tm r with
     | pointer a=>
      cases a with
      | none=>rw [hx] at hb;simp [rb] at hb
      | some a=>rw [hx] at hb;simp [rb] at hb;subst hb;simp [rg]
     | _=>rw [hx] at hb;simp [rb] at hb
    | _=>rw [hT] at hb;simp [rb] at hb
  | cons s sk=>
   refine ⟨fun k=>cellD w B (o+j+k),?_,fun k _=>by simp only [Nat.add_assoc]⟩;have ha:=hp.addr;simp only [paddr] at ha;simp only [pcell];rw [wk_bo (by simp) none ha];rfl
 refine ⟨_,is,(List.range n).map fun k=>cellD w B (o+j+off+k),gf,ra,row,rfl,?_,by simp [roizes_length,hlen],roizes_lives _ _,
  RCL_copy (P:=fun _=>True) (fun S _ b hb=>hcl S b hb) (roizes_nowns _ _) (allSs_true (fun _=>trivial) _) (fun _ _=>rfl) g6,hgf,hpo',fun b hb=>recol_root hdr (hp.root b hb) h.col,fun _=>hr,fun k hk => ?_,?_,hl,by rw [roizes_length,hlen]⟩
 ·refine cellsOf_load h1 h0 fun hg => ?_
  have hn1:=(h0 hg).2;have:=RCL_nth (k:=0) hsub (List.getElem?_eq_getElem (by omega)) (List.getElem?_eq_getElem (by rw [RCL_length hsub];omega));have hf:=RC_flat (lives_nth hlive (List.getElem?_eq_getElem (by omega))) this;have:=oneC_ne hf;simpa [Nat.add_assoc] using this
 ·rw [roizes_length,hlen] at hk;rw [getD_map_range hk];exact ⟨hgk k hk,hne k hk⟩
 ·exact hs
where
 PO_mono {κ:Col} {w:World} {S S':List Nat} (hS:∀q,q∈S->q∈S'):∀{sk:Sk} {is:List Nat} {g:Nat->Value},PO κ w S g sk is->PO κ w S' g sk is
  | [],_,_,_=>by simp [PO]
  | _::_,[],_,_=>by simp [PO]
  | (c,n)::sk,i::is,g,h=>by
   simp only [PO] at h ⊢
   split
   ·rename_i a _ _ hx
    simp only [hx] at h
    exact ⟨okro_mono h.1 hS,PO_mono hS h.2⟩
   ·trivial
 wk_bo {w:World}:∀{sk:Sk} {is:List Nat} {g:Nat->Value} {bo:Option (Nat × Nat)} {x:Nat × Nat},sk≠[]->∀bo':Option (Nat × Nat),wk w g bo sk is=some x->wk w g bo' sk is=some x
  | [],_,_,_,_,h,_,_=>absurd rfl h
  | _::_,[],_,_,_,_,_,h=>by simp [wk] at h
  | (c,n)::sk,i::is,g,bo,x,_,bo',h=>by simp only [wk] at h ⊢;exact h
end
end Go.Fw
namespace Go.Fw
def rangeF (r off n d:Nat) (p:Pl):Option Pl:=
 if p.1=r then match p.2 with
  | k::q=>if off<=k/\k<off+n then some (d,(k-off)::q) else some (r,k::q)
  | []=>some (r,[])
 else if p.1=d then none else some p
def killAll:CT->CT
 | .sl _ e=>.sl .dead e
 | .d=>.d
def deadR (off n:Nat):List CT->List CT
 | cs=>cs.zipIdx.map fun p=>if off<=p.2/\p.2<off+n then killAll p.1 else p.1
theorem deadR_length (off n:Nat) (cs:List CT):(deadR off n cs).length=cs.length:=by simp [deadR]
theorem deadR_nth (off n:Nat) (cs:List CT) (k:Nat):(deadR off n cs)[k]?=(cs[k]?).map fun c=>if off<=k/\k<off+n then killAll c else c:=by
 simp [deadR,List.getElem?_zipIdx];cases cs[k]?<;>simp
theorem mens_nth {M:List Nat}:∀{cs:List CT} {k:Nat} {c:CT},CT.mens M cs=false->cs[k]?=some c->c.men M=false
 | c::cs,0,c',h,hc=>by simp at hc;subst hc;simp only [CT.mens,Bool.or_eq_false_iff] at h;exact h.1
 | c::cs,k+1,c',h,hc=>by simp only [CT.mens,Bool.or_eq_false_iff] at h;exact mens_nth h.2 (by simpa using hc)
 | [],_,_,_,hc=>by simp at hc
theorem mens_drop {M:List Nat} {cs:List CT} (h:CT.mens M cs=false) (k:Nat):CT.mens M (cs.drop k)=false:=by
 induction k generalizing cs with
 | zero=>simpa using h
 | succ k ih=>cases cs with
  | nil=>simp [CT.mens]
  | cons c cs=>simp only [CT.mens,Bool.or_eq_false_iff] at h;simpa using ih h.2
theorem mens_take {M:List Nat} {cs:List CT} (h:CT.mens M cs=false) (k:Nat):CT.mens M (cs.take k)=false:=by
 induction k generalizing cs with
 | zero=>simp [CT.mens]
 | succ k ih=>cases cs with
  | nil=>simp [CT.mens]
  | cons c cs=>simp only [CT.mens,Bool.or_eq_false_iff] at h;simp only [List.take_succ_cons,CT.mens,Bool.or_eq_false_iff];exact ⟨h.1,ih h.2⟩
section
variable {ac:Nat->Nat->Value} {κ0 κ:Col} {w0 w w':World} {N:Nat} {tg:Nat->TT} {sv:Nat->AV} {tm:Nat->Value}
theorem rangeF_M {r off n d:Nat}:∀r' q p,rangeF r off n d (r',q)=some p->r'∉[r]->p=(r',q):=by
 intro r' q p h hr;simp at hr;unfold rangeF at h;simp only [hr,if_false] at h;split at h
 ·cases h
 ·cases h;rfl
theorem R_part (h:R ac κ0 w0 κ w N tg sv tm) {d r:Nat} (hd:d<N) (hdr:d≠r) {off n:Nat} {cs:List CT} {ra:List A} {get:Nat->Value} {tag':TT}
  (hroot:RCL κ w cs (r,[]) 0 get ra) (hm:CT.mens [r] cs=false) (hn:off+n<=cs.length) {g:Bool} {x:Value} {vs:List Value} (hx:cellsOf g x=some vs) (hvl:vs.length=n)
  (hvs:∀i,i<n->vs.getD i undef=get (off+i)) (hpin:Pins ac ((cs.drop off).take n) fun k=>vs.getD k undef)
  (hr:∀(κ':Col),κ'=recol κ (rangeF r off n d) none->RCL κ' w (deadR off n cs) (r,[]) 0 get ra->(κ'=recol κ (rangeF r off n d) none) ->
   TR ac κ' w (upd (upd (fun t=>(tg t).kill [d,r] [r]) r tag') d (.val g ((cs.drop off).take n))) (upd sv d (.v ((ra.drop off).take n) [])) (upd tm d x) r tag') (htr:r<N) :
  R ac κ0 w0 (recol κ (rangeF r off n d) none) w N (upd (upd (fun t=>(tg t).kill [d,r] [r]) r tag') d (.val g ((cs.drop off).take n))) (upd sv d (.v ((ra.drop off).take n) [])) (upd tm d x):=by
 have hcol:∀b p,κ b=some p->recol κ (rangeF r off n d) none b=rangeF r off n d p:=fun b p hb=>recol_old (fun _ _ h=>by cases h) h.col hb
 have hro:∀S,(∀m,m∈[r]->m∉S)->∀b,okro κ w S b->okro (recol κ (rangeF r off n d) none) w S b/\Same w w b:=
  fun S hS b hb=>okro_recol (Grows.refl w) rangeF_M (fun _ _ h=>by cases h) hS b hb
 refine R_mv (mods:=[d,r]) (M:=[r]) h (by have:=h.nle;simp;omega) (Grows.refl w) (fun r' q hr' => ?_) rangeF_M (fun _ _ h=>by cases h) (fun t ht => ?_) (fun t ht => ?_) (fun t ht => ?_) (fun t ht => ?_) (fun t ht => ?_)
 ·simp at hr';simp [rangeF,hr']
 ·simp at ht;simp [upd,ht]
 ·simp at ht;simp [upd,ht]
 ·simp at ht;simp [upd,ht]
 ·simp at ht;rcases ht with rfl|rfl
  ·rw [upd_self];simp only [TR,upd_self];refine ⟨_,vs,rfl,hx,by simp [hvl];omega,hpin,?_⟩;have:=RCL_moves (f:=id) (P:=fun S=>∀m,m∈[r]->m∉S) (κ':=recol κ (rangeF r off n t) none) (w':=w) (p':=(t,[])) (j':=0) (get':=fun k=>vs.getD k undef) hro
    (mens_allSs (fun S hS=>hS) (mens_take (mens_drop hm off) n)) (fun i hi b q hb => ?_) (fun i hi => ?_) (RCL_take n (RCL_drop off hroot))
   ·rwa [mapSs_id] at this
   ·refine ⟨?_,Same.refl w b⟩;rw [hcol b _ hb];have hi':i<n:=by simp at hi;omega
    simp only [rangeF,if_true,List.nil_append];rw [if_pos (by omega)];simp
   ·have hi':i<n:=by simp at hi;omega
    simp only [Nat.zero_add];exact hvs i hi'
  ·rw [upd_ne _ _ _ (Ne.symm hdr),upd_self];refine hr _ rfl ?_ rfl;refine RCL_of_nth (by rw [deadR_length];exact RCL_length hroot) fun k c a hc ha => ?_
   rw [deadR_nth] at hc;cases hc0:cs[k]? with
   | none=>simp [hc0] at hc
   | some c0=>
    simp only [hc0,Option.map_some,Option.some.injEq] at hc;have h0:=RCL_nth hroot hc0 ha;split at hc
    ·subst hc;cases c0 with
     | d=>simp only [killAll];cases a with
      | v y=>simp only [RC] at h0 ⊢;exact h0
      | s xs=>simp [RC] at h0
     | sl m e=>simp only [killAll,RC]
    ·rename_i hk;subst hc;refine RC_stay (men_allS (fun S hS=>hro S hS) (mens_nth hm hc0)) (fun b q hb=>⟨?_,Same.refl w b⟩) h0;rw [hcol b _ hb];simp only [Pl.at,Nat.zero_add,List.nil_append,List.singleton_append] at hb ⊢;rw [hb];simp only [rangeF,if_true];rw [if_neg hk]
 ·have h1:t≠d:=by omega
  have h2:t≠r:=by omega
  simp [upd,h1,h2,h.out t ht,TT.kill]
theorem R_take (h:R ac κ0 w0 κ w N tg sv tm) {t r:Nat} (htN:t<N) (hrN:r<N) (htr:t≠r) {ag:Bool} {cs0 cs:List CT} {off:Nat} {S:List Nat} (ht:tg t = .alias ag cs0 r [] off S) (hr:(tg r).cts=some cs)
  (hm:CT.mens [r] cs=false) (hn:off+cs0.length<=cs.length) {as is} (hs:sv t = .v as is) {tag':TT} (htag:tag'=match tg r with | .val g _=>.val g (deadR off cs0.length cs) | .box _=>.box (deadR off cs0.length cs)|x=>x) :
  R ac κ0 w0 (recol κ (rangeF r off cs0.length t) none) w N (upd (upd (fun u=>(tg u).kill [t,r] [r]) r tag') t (.val ag ((cs.drop off).take cs0.length))) (upd sv t (.v as [])) tm:=by
 have h1:=h.tr t;rw [ht] at h1;simp only [TR] at h1;obtain ⟨as',is',vs,g,ra,row,g1,g2,g3,gl,g4,g5,g6,g7,g8,g9,g10,g11,g12⟩:=h1;rw [hs] at g1;cases g1;have his:is=[]:=by
  cases is with
  | nil=>rfl
  | cons=>simp [pcell] at g5
 subst his;simp only [pcell,Option.some.injEq] at g5;subst g5;simp only [lookL,Option.some.injEq] at g11;subst g11;have hroot:=h.root hr g10;have hk:=h.tr r;have htm:upd tm t (tm t)=tm:=by funext u;simp only [upd];split<;>simp_all
 rw [<-htm,g12];refine R_part h htN htr hroot hm hn g2 g3 (fun i hi=>(g9 i hi).1.symm) ?_ (fun κ' hκ hdead _ => ?_) hrN
 ·-- pins
  intro k j c e hc;have hk':k<cs0.length:=by
   have:=(List.getElem?_eq_some_iff.1 hc).1;simp at this;omega
  show vs.getD k undef=ac j c;rw [<-(g9 k hk').1];have hc':cs[off+k]?=some (.sl (.own (some (j,c))) e):=by
   rw [List.getElem?_take_of_lt hk',List.getElem?_drop] at hc;exact hc
  cases hT:tg r with
  | val gg cs'=>
   rw [hT] at hk hr;simp only [TT.cts,Option.some.injEq] at hr;subst hr;simp only [TR] at hk;obtain ⟨as2,vs2,k1,k2,k3,k4,k5⟩:=hk;have:=k4 (off+k) j c e hc';simp [rg,k2] at this ⊢;exact this
  | box cs'=>
   rw [hT] at hk hr;simp only [TT.cts,Option.some.injEq] at hr;subst hr;simp only [TR] at hk;obtain ⟨as2,b,k1,k2,k3,k4,k5,k6,k7⟩:=hk;have:=k6 (off+k) j c e hc';simp [rg,k2] at this ⊢;exact this
  | dead=>rw [hT] at hr;simp [TT.cts] at hr
  | alias=>rw [hT] at hr;simp [TT.cts] at hr
  | ptr=>rw [hT] at hr;simp [TT.cts] at hr
  | tup=>rw [hT] at hr;simp [TT.cts] at hr
 ·subst htag;have hpd:∀get,Pins ac cs get->Pins ac (deadR off cs0.length cs) get:=by
   intro get hp k j c e hc;rw [deadR_nth] at hc;cases hc0:cs[k]? with
   | none=>simp [hc0] at hc
   | some c0=>
    simp only [hc0,Option.map_some,Option.some.injEq] at hc;split at hc
    ·cases c0<;>simp [killAll] at hc
    ·exact hp k j c e (by rw [hc0,hc])
  cases hT:tg r with
  | val gg cs'=>
   rw [hT] at hk hr hdead;simp only [TT.cts,Option.some.injEq] at hr;subst hr;simp only [TR,upd_ne _ _ _ (Ne.symm htr)] at hk ⊢;obtain ⟨as2,vs2,k1,k2,k3,k4,k5⟩:=hk;rw [g10] at k1;cases k1;have:rg w (.val gg cs') (tm r)=fun k=>vs2.getD k undef:=by funext k;simp [rg,k2]
   rw [this] at hdead;exact ⟨_,vs2,g10,k2,by rw [deadR_length];exact k3,hpd _ k4,hdead⟩
  | box cs'=>
   rw [hT] at hk hr hdead;simp only [TT.cts,Option.some.injEq] at hr;subst hr;simp only [TR,upd_ne _ _ _ (Ne.symm htr)] at hk ⊢;obtain ⟨as2,b,k1,k2,k3,k4,k5,k6,k7⟩:=hk;rw [g10] at k1;cases k1;have:rg w (.box cs') (tm r)=cellD w b:=by funext k;simp [rg,k2]
   rw [this] at hdead;refine ⟨_,b,g10,k2,k3,?_,by rw [deadR_length];exact k5,hpd _ k6,hdead⟩;rw [hκ,recol_old (fun _ _ h=>by cases h) h.col k4];simp [rangeF]
  | dead=>rw [hT] at hr;simp [TT.cts] at hr
  | alias=>rw [hT] at hr;simp [TT.cts] at hr
  | ptr=>rw [hT] at hr;simp [TT.cts] at hr
  | tup=>rw [hT] at hr;simp [TT.cts] at hr
end
end Go.Fw
namespace Go.Fw
section
variable {ac:Nat->Nat->Value} {κ0 κ:Col} {w0 w w':World} {N:Nat} {tg:Nat->TT} {sv:Nat->AV} {tm:Nat->Value}
theorem R_extract (h:R ac κ0 w0 κ w N tg sv tm) {d t:Nat} (hd:d<N) (htN:t<N) (hdt:d≠t) {ws:List (Bool × Nat)} {cs:List CT} (ht:tg t = .tup ws cs) (hm:CT.mens [t] cs=false)
  {off n:Nat} (hn:off+n<=cs.length) {g:Bool} {x:Value} {as:List A} (hs:sv t = .v as []) (hnp:noPin ((cs.drop off).take n)=true)
  (hx:∀xs vs,tm t = .tuple xs->tupOf ws xs.toList=some vs->cellsOf g x=some ((vs.drop off).take n)) :
  R ac κ0 w0 (recol κ (rangeF t off n d) none) w N (upd (upd (fun u=>(tg u).kill [d,t] [t]) t (.tup ws (deadR off n cs))) d (.val g ((cs.drop off).take n))) (upd sv d (.v ((as.drop off).take n) [])) (upd tm d x):=by
 have h1:=h.tr t;rw [ht] at h1;simp only [TR] at h1;obtain ⟨as',xs,vs,g1,g2,g3,g4,g5⟩:=h1;rw [hs] at g1;cases g1;have hvs:∀i,i<n->((vs.drop off).take n).getD i undef=vs.getD (off+i) undef:=by
  intro i hi;simp only [List.getD_eq_getElem?_getD];rw [List.getElem?_take_of_lt hi,List.getElem?_drop]
 refine R_part h hd hdt g5 hm hn (hx xs vs g2 g3) (by simp;omega) hvs (noPin_pins hnp) (fun κ' hκ hdead _ => ?_) htN;simp only [TR,upd_ne _ _ _ (Ne.symm hdt)];exact ⟨_,xs,vs,hs,g2,g3,by rw [deadR_length];exact g4,hdead⟩
theorem R_setptr (h:R ac κ0 w0 κ w N tg sv tm) {d r:Nat} (hd:d<N) (hr:r≠d) {sk:Sk} {is S:List Nat} {B O off:Nat} (hp:Pla κ w tg tm r sk is S B O) :
  R ac κ0 w0 (recol κ (clrF d) none) w N (setT tg d (.ptr r sk off S)) (upd sv d (.p is)) (upd tm d (.pointer (some ⟨B,O+off,none⟩))):=by
 refine R_set0 h hd (Grows.refl w) (fun _ _ h=>by cases h) ?_;have hcl:=fun S b hb=>okro_clr (κ:=κ) (w:=w) (w':=w) (d:=d) (nb:=none) (Grows.refl w) (fun _ _ h=>by cases h) S b hb
 simp only [TR,upd_self,setT,upd_ne _ _ _ hr,(rg_killed w [d] [] (tg r) (tm r)).2,show rg w ((tg r).kill [d] []) (tm r)=rg w (tg r) (tm r) from (rg_killed w [d] [] (tg r) (tm r)).1];exact ⟨is,B,O,rfl,hp.addr,(wk_stay (hcl S) (fun k _=>rfl) hp.po hp.addr).2,fun b hb=>recol_root hr (hp.root b hb) h.col,rfl⟩
theorem wk_snoc {w:World} {c n i b o len cap:Nat}:∀{sk:Sk} {is:List Nat} {g gf:Nat->Value} {bo:Option (Nat × Nat)},pcell w g sk is=some gf->gf c = .slice (some ⟨b,o,none⟩) len cap->i<len ->
  wk w g bo (sk++[(c,n)]) (is++[i])=some (b,o+i*n)
 | [],[],g,gf,bo,h,hx,hi=>by
  simp only [pcell,Option.some.injEq] at h;subst h;simp [wk,hx,hi]
 | [],_::_,_,_,_,h,_,_=>by simp [pcell] at h
 | (c0,n0)::sk,[],_,_,_,h,_,_=>by simp [pcell,wk] at h
 | (c0,n0)::sk,i0::is,g,gf,bo,h,hx,hi=>by
  simp only [pcell,Option.map_eq_some_iff,wk] at h;obtain ⟨BO,h,rfl⟩:=h;split at h;case h_2=>simp at h
  case h_1 b0 o0 len0 cap0 hx0=>
  split at h;case isFalse=>simp at h
  case isTrue hi0=>
  simp only [List.cons_append,wk,hx0,if_pos hi0];cases sk with
  | nil=>
   cases is with
   | cons=>simp [wk] at h
   | nil=>
    simp only [wk,Option.some.injEq] at h;subst h;exact wk_snoc (sk:=[]) (is:=[]) (gf:=fun k=>cellD w b0 (o0+i0*n0+k)) rfl hx hi
  | cons s sk=>
   refine wk_snoc (sk:=s::sk) (gf:=fun k=>cellD w BO.1 (BO.2+k)) ?_ hx hi;simp only [pcell];rw [show wk w (fun k=>cellD w b0 (o0+i0*n0+k)) none (s::sk) is=some BO from ?_]
   ·rfl
   ·rw [<-h];cases is with
    | nil=>simp [wk]
    | cons i1 is=>obtain ⟨c1,n1⟩:=s;simp [wk]
theorem PO_snoc {κ:Col} {w:World} {S:List Nat} {c n i:Nat}:∀{sk:Sk} {is:List Nat} {g gf:Nat->Value},pcell w g sk is=some gf->PO κ w S g sk is->(∀a len cap,gf c = .slice (some a) len cap->okro κ w S a.block) ->
  PO κ w S g (sk++[(c,n)]) (is++[i])
 | [],[],g,gf,h,_,hx=>by
  simp only [pcell,Option.some.injEq] at h;subst h;simp only [List.nil_append,PO];split
  ·rename_i a len cap ha;exact ⟨hx a len cap ha,trivial⟩
  ·trivial
 | [],_::_,_,_,h,_,_=>by simp [pcell] at h
 | (c0,n0)::sk,[],_,_,h,_,_=>by simp [pcell,wk] at h
 | (c0,n0)::sk,i0::is,g,gf,h,hp,hx=>by
  simp only [pcell,Option.map_eq_some_iff,wk] at h;obtain ⟨BO,h,rfl⟩:=h;split at h;case h_2=>simp at h
  case h_1 b0 o0 len0 cap0 hx0=>
  split at h;case isFalse=>simp at h
  case isTrue hi0=>
  simp only [PO,hx0] at hp;simp only [List.cons_append,PO,hx0];refine ⟨hp.1,?_⟩;cases sk with
  | nil=>
   cases is with
   | cons=>simp [wk] at h
   | nil=>
    simp only [wk,Option.some.injEq] at h;subst h;exact PO_snoc (sk:=[]) (is:=[]) (gf:=fun k=>cellD w b0 (o0+i0*n0+k)) rfl (by simp [PO]) hx
  | cons s sk=>
   refine PO_snoc (sk:=s::sk) (gf:=fun k=>cellD w BO.1 (BO.2+k)) ?_ hp.2 hx;simp only [pcell];rw [show wk w (fun k=>cellD w b0 (o0+i0*n0+k)) none (s::sk) is=some BO from ?_]
   ·rfl
   ·rw [<-h];cases is with
    | nil=>simp [wk]
    | cons i1 is=>obtain ⟨c1,n1⟩:=s;simp [wk]
theorem slice_block {κ:Col} {w:World} {m:Md} {e:List CT} {p:Pl} {x:Value} {xs:List (List A)} {S:List Nat} (hp2:p.2≠[]) (hm:(∃S0,m = .ro S0/\∀r,r∈S0->r∈S)\/(∃k,m = .own k)/\p.1∈S) (h:RC κ w (.sl m e) p x (.s xs)) :
  ∃ao cap,x = .slice ao xs.length cap/\(xs≠[]->∃b o,ao=some ⟨b,o,none⟩/\okro κ w S b):=by
 rcases hm with ⟨S0,rfl,hS⟩|⟨⟨k,rfl⟩,hp⟩
 ·simp only [RC] at h;obtain ⟨ao,cap,hx,hle,hc⟩:=h;refine ⟨ao,cap,hx,fun hne => ?_⟩;rcases hc with h0|⟨b,o,rfl,hb,_,_⟩
  ·exact absurd h0 hne
  ·exact ⟨b,o,rfl,okro_mono hb hS⟩
 ·simp only [RC] at h;obtain ⟨ao,cap,hx,hle,hc⟩:=h;refine ⟨ao,cap,hx,fun hne => ?_⟩;rcases hc with ⟨_,h0⟩|⟨b,o,rfl,hs,hb,_,_⟩
  ·have:xs.length=0:=by omega
   exact absurd (List.length_eq_zero_iff.1 this) hne
  ·exact ⟨b,o,rfl,okro_of hs hb hp hp2⟩
theorem R.pla_val (h:R ac κ0 w0 κ w N tg sv tm) {t:Nat} {m:Md} {e:List CT} (ht:tg t = .val false [.sl m e]) {S:List Nat} (hm:(∃S0,m = .ro S0/\∀r,r∈S0->r∈S)\/(∃k,m = .own k)/\t∈S)
  {xs:List (List A)} (hs:sv t = .v [.s xs] []) {i:Nat} (hi:i<xs.length) (n:Nat) :
  ∃b o cap,tm t = .slice (some ⟨b,o,none⟩) xs.length cap/\Pla κ w tg tm t [(0,n)] [i] S b (o+i*n):=by
 have h1:=h.tr t;rw [ht] at h1;simp only [TR] at h1;obtain ⟨as,vs,g1,g2,g3,g4,g5⟩:=h1;rw [hs] at g1;cases g1;have hvs:vs=[tm t]:=by
  cases hx:tm t<;>rw [hx] at g2<;>simp [cellsOf] at g2<;>exact g2.symm
 subst hvs;simp only [RCL] at g5;have hne:xs≠[]:=by rintro rfl;simp at hi
 obtain ⟨ao,cap,hx,hb⟩:=slice_block (S:=S) (by simp [Pl.at]) (hm.imp id fun h=>⟨h.1,h.2⟩) g5.1;obtain ⟨b,o,rfl,hok⟩:=hb hne;simp at hx;have hrg:rg w (tg t) (tm t) 0 = .slice (some ⟨b,o,none⟩) xs.length cap:=by rw [ht,hx];rfl
 refine ⟨b,o,cap,hx,⟨?_,?_,fun b' hb'=>by rw [ht] at hb';simp [rb] at hb'⟩⟩
 ·have:=wk_snoc (w:=w) (c:=0) (n:=n) (i:=i) (sk:=[]) (is:=[]) (bo:=(rb (tg t) (tm t)).map fun b=>(b,0)) (g:=rg w (tg t) (tm t)) rfl hrg hi;simpa [paddr] using this
 ·have:=PO_snoc (κ:=κ) (w:=w) (S:=S) (c:=0) (n:=n) (i:=i) (sk:=[]) (is:=[]) (g:=rg w (tg t) (tm t)) rfl (by simp [PO]) (fun a len cap' ha=>by rw [hrg] at ha;cases ha;exact hok);simpa using this
theorem R.pla_alias (h:R ac κ0 w0 κ w N tg sv tm) {t r:Nat} {S0:List Nat} {e:List CT} {sk:Sk} {off:Nat} {S:List Nat} (ht:tg t = .alias false [.sl (.ro S0) e] r sk off S) (hS:∀r,r∈S0->r∈S)
  {xs:List (List A)} {is:List Nat} (hs:sv t = .v [.s xs] is) {i:Nat} (hi:i<xs.length) (n:Nat) :
  ∃b o cap,tm t = .slice (some ⟨b,o,none⟩) xs.length cap/\Pla κ w tg tm r (sk++[(off,n)]) (is++[i]) S b (o+i*n):=by
 have h1:=h.tr t;rw [ht] at h1;simp only [TR] at h1;obtain ⟨as,is',vs,g,ra,row,g1,g2,g3,gl,g4,g5,g6,g7,g8,g9,g10,g11,g12⟩:=h1;rw [hs] at g1;cases g1;have hvs:vs=[tm t]:=by
  cases hx:tm t<;>rw [hx] at g2<;>simp [cellsOf] at g2<;>exact g2.symm
 subst hvs;simp only [RCL] at g4;have hne:xs≠[]:=by rintro rfl;simp at hi
 obtain ⟨ao,cap,hx,hb⟩:=slice_block (S:=S) (by simp [Pl.at]) (.inl ⟨S0,rfl,hS⟩) g4.1;obtain ⟨b,o,rfl,hok⟩:=hb hne;simp at hx;have hg0:g off = .slice (some ⟨b,o,none⟩) xs.length cap:=by
  have:=(g9 0 (by simp)).1;simp [hx] at this;simpa using this
 refine ⟨b,o,cap,hx,⟨?_,?_,g7⟩⟩
 ·exact wk_snoc g5 hg0 hi
 ·exact PO_snoc g5 g6 (fun a len cap' ha=>by rw [hg0] at ha;cases ha;exact hok)
end
end Go.Fw
namespace Go.Fw
theorem splice_nth {α:Type} {l x:List α} {off:Nat} (h:off+x.length<=l.length) (k:Nat) :
  (splice l off x)[k]?=if k<off then l[k]? else if k<off+x.length then x[k-off]? else l[k]?:=by
 unfold splice;split
 ·rw [List.getElem?_append_left (by simp;omega),List.getElem?_take_of_lt (by omega)]
 ·rw [List.getElem?_append_right (by simp;omega)];have hmin:(List.take off l).length=off:=by simp;omega
  rw [hmin];split
  ·rw [List.getElem?_append_left (by omega)]
  ·rw [List.getElem?_append_right (by omega),List.getElem?_drop];congr 1;omega
def SlAgr (g g':Nat->Value):Prop:=∀k a l c,g k = .slice a l c->g' k = .slice a l c
theorem wk_sl {κ:Col} {w w':World} {S:List Nat} (hsz:w'.heap.size=w.heap.size) (hc:∀b,SlAgr (cellD w b) (cellD w' b)) :
  ∀{sk:Sk} {is:List Nat} {g g':Nat->Value} {bo:Option (Nat × Nat)} {x:Nat × Nat},SlAgr g g'->wk w g bo sk is=some x->wk w' g' bo sk is=some x/\(PO κ w S g sk is->PO κ w' S g' sk is)
 | [],[],_,_,_,_,_,h=>by simp only [wk,PO] at h ⊢;exact ⟨h,fun _=>trivial⟩
 | [],_::_,_,_,_,_,_,h=>by simp [wk] at h
 | _::_,[],_,_,_,_,_,h=>by simp [wk] at h
 | (c,n)::sk,i::is,g,g',bo,x,hg,h=>by
  simp only [wk] at h;split at h;case h_2=>simp at h
  case h_1 b o len cap hx=>
  split at h;case isFalse=>simp at h
  case isTrue hi=>
  have hx':=hg c _ _ _ hx;have hrec:=wk_sl (κ:=κ) (S:=S) hsz hc (g':=fun k=>cellD w' b (o+i*n+k)) (fun k a l c' hk=>hc b _ a l c' hk) h;simp only [wk,PO,hx,hx',if_pos hi];refine ⟨hrec.1,fun hp=>⟨⟨by rw [hsz];exact hp.1.1,hp.1.2⟩,hrec.2 hp.2⟩⟩
theorem setsW_sl {w:World} {b o:Nat} {vs:List Value} (hd:∀k,k<vs.length->sc (cellD w b (o+k))=true) (b':Nat):SlAgr (cellD w b') (cellD (setsW w b o vs) b'):=by
 intro k a l c hk;unfold cellD at hk ⊢;rw [setsW_cell];split
 ·rename_i h;obtain ⟨rfl,h1,h2⟩:=h;have:=hd (k-o) (by omega);rw [show o+(k-o)=k from by omega] at this;unfold cellD at this;rw [hk] at this;simp [sc] at this
 ·exact hk
section
variable {ac:Nat->Nat->Value} {κ0 κ:Col} {w0 w w':World} {N:Nat} {tg:Nat->TT} {sv:Nat->AV} {tm:Nat->Value}
def allD (cs:List CT):Bool:=cs.all fun c=>match c with
 | .d=>true
 | _=>false
theorem allD_nth {cs:List CT} (h:allD cs=true) {k:Nat} {c:CT} (hc:cs[k]?=some c):c = .d:=by
 have:=List.all_eq_true.1 h _ (List.mem_of_getElem? hc);cases c with
 | d=>rfl
 | sl m e=>simp at this
def TT.killD (r:Nat) (M:List Nat):TT->TT
 | .ptr r' sk off S=>if r'=r then .ptr r' sk off S else (TT.ptr r' sk off S).kill [r] M
 | x=>x.kill [r] M
theorem pth_ne {sk:Sk} {is p:List Nat} {j:Nat} (hs:sk≠[]) (hi:is≠[]):(pth p j sk is).1≠[]:=by
 have:=pth_longer sk is p j hs hi;intro h;rw [h] at this;simp at this
theorem tagL_mens {M:List Nat} {own:Bool}:∀{sk:Sk} {cs e:List CT},CT.mens M cs=false->tagL own cs sk=some e->CT.mens M e=false
 | [],cs,e,h,ht=>by simp only [tagL,Option.some.injEq] at ht;subst ht;exact h
 | (c,n)::sk,cs,e,h,ht=>by
  simp only [tagL] at ht;split at ht
  ·rename_i k e0 hc;split at ht
   ·have:=mens_nth h hc;simp only [CT.men] at this;exact tagL_mens this ht
   ·cases ht
  ·rename_i S e0 hc;split at ht
   ·have:=mens_nth h hc;simp only [CT.men,Bool.or_eq_false_iff] at this;exact tagL_mens this.2 ht
   ·cases ht
  ·cases ht
theorem R_stored (h:R ac κ0 w0 κ w N tg sv tm) {r:Nat} (hrN:r<N) {cs e:List CT} {sk:Sk} {is S:List Nat} {B O off:Nat} (ht:(tg r).cts=some cs) {ra row:List A} (hs:sv r = .v ra [])
  (hp:Pla κ w tg tm r sk is S B O) (he:tagL true cs sk=some e) (hl:lookL ra sk is=some row) {ys:List Value} (hn:off+ys.length<=e.length) (hd:allD ((e.drop off).take ys.length)=true) (hys:ys.all sc=true)
  (hm:CT.mens [r] cs=false) {M:List Nat} (hM:M=if sk=[] then [] else [r]) :
  Wrb w B (O+off) (O+off+ys.length) /\
  R ac κ0 w0 κ (setsW w B (O+off) ys) N (upd (fun t=>(tg t).killD r M) r (tg r)) (upd sv r (.v (setL ra sk is (splice row off (ys.map .v))) [])) tm:=by
 have hfacts:=setsW_facts ys w B (O+off);have hsz:(setsW w B (O+off) ys).heap.size=w.heap.size:=hfacts.1;have hroot:=h.root ht hs
 -- where it is
 obtain ⟨P,hκB,hP,hW,o,j,hO,hrow,hPj⟩:∃P,κ B=some (r,P)/\(sk=[]↔P=[])/\Wrb w B O (O+e.length)/\∃o j,O=o+j/\RCL κ w e (r,P) j (fun k=>cellD w B (o+k)) row /\
   (sk≠[]->P=(pth [] 0 sk is).1/\j=(pth [] 0 sk is).2)/\(sk=[]->o+j=0/\e=cs/\row=ra/\is=[]/\j=0):=by
  cases sk with
  | nil=>
   cases is with
   | cons=>simp [lookL] at hl
   | nil=>
    simp only [lookL,Option.some.injEq,tagL] at hl he;subst hl;subst he;have ha:=hp.addr;simp only [paddr,wk,Option.map_eq_some_iff,Prod.mk.injEq] at ha;obtain ⟨b,hb,rfl,rfl⟩:=ha;have hκ:=hp.root b hb;cases hT:tg r with
    | box cs'=>
     have h1:=h.tr r;rw [hT] at h1 ht;simp only [TT.cts,Option.some.injEq] at ht;subst ht;simp only [TR] at h1;obtain ⟨as,b',g1,g2,g3,g4,g5,g6,g7⟩:=h1;rw [hs] at g1;cases g1;simp [rb,hT,g2] at hb;subst hb;exact ⟨[],g4,by simp,by simpa using g5,0,0,rfl,by simpa using g7,by simp,fun _=>by simp⟩
    | _=>rw [hT] at hb;simp [rb] at hb
  | cons s sk=>
   obtain ⟨b,o,g1,g2,g3,g4⟩:=foc_own (bo:=(rb (tg r) (tm r)).map fun b=>(b,0)) (by simp) hroot he hl;have ha:=hp.addr;simp only [paddr] at ha;simp only [Nat.zero_add] at g1;rw [ha] at g1;simp only [Option.some.injEq,Prod.mk.injEq] at g1;obtain ⟨rfl,rfl⟩:=g1;have his:is≠[]:=by rintro rfl;cases s;simp [lookL] at hl
   exact ⟨_,g2,by simp [pth_ne (sk:=s::sk) (is:=is) (p:=[]) (j:=0) (by simp) his],g3,o,_,rfl,g4,fun _=>⟨rfl,rfl⟩,by simp⟩
 have hWn:Wrb w B (O+off) (O+off+ys.length):=hW.sub (by omega) (by omega);refine ⟨hWn,?_⟩;have hrange:∀k,k<ys.length->sc (cellD w B (O+off+k))=true:=by
  intro k hk;have hc:e[off+k]?=some .d:=by
   have h1:((e.drop off).take ys.length)[k]?=e[off+k]?:=by rw [List.getElem?_take_of_lt hk,List.getElem?_drop]
   have h2:off+k<e.length:=by omega
   rw [<-h1,List.getElem?_eq_getElem (by simp;omega)];congr 1;exact allD_nth hd (List.getElem?_eq_getElem _)
  have hlen:=RCL_length hrow;have:=RCL_nth hrow hc (List.getElem?_eq_getElem (by omega));cases ha:row[off+k]'(by omega) with
  | v y=>rw [ha] at this;simp only [RC] at this;rw [hO,show o+j+off+k=o+(j+(off+k)) from by omega,this.1];exact this.2
  | s xs=>rw [ha] at this;simp [RC] at this
 have hsl:∀b,SlAgr (cellD w b) (cellD (setsW w B (O+off) ys) b):=fun b=>setsW_sl hrange b
 -- the new row
 have hrow':RCL κ (setsW w B (O+off) ys) e (r,P) j (fun k=>cellD (setsW w B (O+off) ys) B (o+k)) (splice row off (ys.map .v)):=by
  have hlen:=RCL_length hrow;refine RCL_of_nth (by rw [splice_length (by simp;omega)];exact hlen) fun k c a hc ha => ?_
  rw [splice_nth (by simp;omega)] at ha;have hk:=(List.getElem?_eq_some_iff.1 hc).1;have hold:(∀i,i<ys.length->k≠off+i)->row[k]?=some a->RC κ (setsW w B (O+off) ys) c (Pl.at (r,P) (j+k)) (cellD (setsW w B (O+off) ys) B (o+(j+k))) a:=by
   intro hne hak;have h0:=RCL_nth hrow hc hak;have hcell:cellD (setsW w B (O+off) ys) B (o+(j+k))=cellD w B (o+(j+k)):=by
    unfold cellD;rw [setsW_cell,if_neg];rintro ⟨_,h1,h2⟩;exact hne (k-off) (by omega) (by omega)
   rw [hcell];have hcm:c.men [r]=false:=by
    have:=tagL_mens hm he;exact mens_nth this hc
   refine RC_stay (men_allS (fun S hS b hb => ?_) hcm) (fun b q hb=>⟨rfl,setsW_same ?_⟩) h0
   ·have:b≠B:=by rintro rfl;exact hS r (by simp) (hb.2 _ _ hκB).1
    exact ⟨⟨by rw [hsz];exact hb.1,hb.2⟩,setsW_same this⟩
   ·rintro rfl;rw [hκB] at hb;simp [Pl.at] at hb
  by_cases h1:k<off
  ·rw [if_pos h1] at ha;exact hold (fun i _=>by omega) ha
  ·rw [if_neg h1] at ha;by_cases h2:k<off+(ys.map A.v).length
   ·rw [if_pos h2] at ha;simp at h2;simp only [List.getElem?_map] at ha;have hky:k-off<ys.length:=by omega
    rw [List.getElem?_eq_getElem hky] at ha;simp only [Option.map_some,Option.some.injEq] at ha;subst ha;have hc':c = .d:=by
     refine allD_nth hd (k:=k-off) ?_;rw [List.getElem?_take_of_lt hky,List.getElem?_drop,show off+(k-off)=k from by omega];exact hc
    subst hc';simp only [RC];have:=setsW_cellD hWn (k-off) hky;rw [show O+off+(k-off)=o+(j+k) from by omega] at this;rw [this];have hys':=List.all_eq_true.1 hys _ (List.getElem_mem hky);exact ⟨by simp [hky],hys'⟩
   ·rw [if_neg h2] at ha;simp at h2;exact hold (fun i hi=>by omega) ha
 -- others
 have hro:∀S,(∀m,m∈M->m∉S)->∀b,okro κ w S b->okro κ (setsW w B (O+off) ys) S b/\Same w (setsW w B (O+off) ys) b:=by
  intro S hS b hb;have:b≠B:=by
   rintro rfl;have h2:=hb.2 _ _ hκB;by_cases hsk:sk=[]
   ·exact h2.2 (hP.1 hsk)
   ·rw [hM,if_neg hsk] at hS;exact hS r (by simp) h2.1
  exact ⟨⟨by rw [hsz];exact hb.1,hb.2⟩,setsW_same this⟩
 refine R_step (mods:=[r]) (M:=M) h (by have:=h.nle;simp;omega) hro (fun b r' q hr' hb=>⟨rfl,setsW_same ?_⟩) (fun t ht' => ?_) (fun t ht' => ?_) (fun t _=>rfl) (fun t ht' => ?_) (fun t ht' => ?_) (fun b hb => ?_) ?_
 ·rintro rfl;simp at hr';rw [hκB] at hb;cases hb;exact hr' rfl
 ·simp at ht';simp only [upd,ht',if_false];cases hT:tg t with
  | ptr r' sk' off' S'=>
   simp only [TT.killD];by_cases hrr:r'=r
   ·subst hrr;right;simp only [if_true];refine ⟨fun x=>by simp,?_⟩;have h1:=h.tr t;rw [hT] at h1;simp only [TR,upd_self,upd_ne _ _ _ ht'] at h1 ⊢;obtain ⟨is',B',O',g1,g2,g3,g4,g5⟩:=h1;have hrgs:SlAgr (rg w (tg r') (tm r')) (rg (setsW w B (O+off) ys) (tg r') (tm r')):=by
     intro k a l c hk;unfold rg at hk ⊢;split at hk
     ·exact hk
     ·exact hsl _ _ _ _ _ hk
     ·exact hk
    have:=wk_sl (κ:=κ) (S:=S') hsz hsl hrgs (by simpa [paddr] using g2);exact ⟨is',B',O',g1,by simpa [paddr] using this.1,this.2 g3,g4,g5⟩
   ·simp only [hrr,if_false];exact .inl trivial
  | _=>left;simp [TT.killD]
 ·simp at ht';simp [upd,ht']
 ·simp at ht';subst ht';rw [upd_self];have h1:=h.tr t;cases hT:tg t with
  | val ag cs'=>
   rw [hT] at h1 ht;simp only [TT.cts,Option.some.injEq] at ht;subst ht;simp only [TR,upd_self] at h1 ⊢;obtain ⟨as,vs,g1,g2,g3,g4,g5⟩:=h1;rw [hs] at g1;cases g1;have hsk:sk≠[]:=by
    rintro rfl;have ha:=hp.addr;rw [hT] at ha;cases is<;>simp [paddr,rb,wk] at ha
   refine ⟨_,vs,rfl,g2,g3,g4,?_⟩;have hrg:rg w (tg t) (tm t)=fun k=>vs.getD k undef:=by rw [hT];funext k;simp [rg,g2]
   have ha:=hp.addr;rw [hrg] at ha hroot;simp only [paddr] at ha;obtain ⟨rfl,rfl⟩:=hPj.1 hsk;exact upd_own (bo:=(rb (tg t) (tm t)).map fun b=>(b,0)) hsk hroot he hl (by simpa using ha) (mens_allSs (fun S hS b hb=>hro S (by rw [hM,if_neg hsk];exact hS) b hb) hm)
    (fun b q hb hbB _=>⟨rfl,setsW_same hbB⟩) (fun hb=>by rw [hsz];exact hb) rfl
    (fun o' y ho' hy=>⟨by rw [setsW_cell,if_neg (by rintro ⟨_,h1,h2⟩;exact ho' ⟨by omega,by omega⟩)];exact hy,hfacts.2.2.2.2.2 _ _⟩) (setsW_wrb hW) (fun o' ho'=>by
     have h9:o'=o:=by omega
     subst h9;exact hrow')
  | box cs'=>
   rw [hT] at h1 ht;simp only [TT.cts,Option.some.injEq] at ht;subst ht;simp only [TR,upd_self] at h1 ⊢;obtain ⟨as,b,g1,g2,g3,g4,g5,g6,g7⟩:=h1;rw [hs] at g1;cases g1;by_cases hsk:sk=[]
   ·obtain ⟨h0,rfl,rfl,rfl,rfl⟩:=hPj.2 hsk;have hbB:b=B:=by
     have ha:=hp.addr;rw [hT,g2,hsk] at ha;simp [paddr,rb,wk] at ha;exact ha.1
    subst hbB;subst hsk;have ho:o=0:=by omega
    subst ho;have hP0:P=[]:=hP.1 rfl;subst hP0;refine ⟨_,b,rfl,g2,by rw [hsz];exact g3,g4,setsW_wrb g5,fun k j c e' hk => ?_,by simpa [setL] using hrow'⟩;have:=g6 k j c e' hk;rw [<-this];unfold cellD;rw [setsW_cell,if_neg];rintro ⟨_,h1,h2⟩;have hky:k-off<ys.length:=by omega
    have:(CT.sl (.own (some (j,c))) e') = .d:=by
     refine allD_nth hd (k:=k-off) ?_;rw [List.getElem?_take_of_lt hky,List.getElem?_drop,show off+(k-off)=k from by omega];exact hk
    cases this
   ·obtain ⟨rfl,rfl⟩:=hPj.1 hsk;have hbB:b≠B:=by
     rintro rfl;rw [g4] at hκB;simp only [Option.some.injEq,Prod.mk.injEq,true_and] at hκB;exact hsk (hP.2 hκB.symm)
    have hsame:=setsW_same (w:=w) (o:=O+off) (vs:=ys) hbB;have hrg:rg w (tg t) (tm t)=cellD w b:=by rw [hT];funext k;simp [rg,g2]
    have ha:=hp.addr;rw [hrg] at ha hroot;simp only [paddr] at ha;have hup:=upd_own (κ':=κ) (w':=setsW w B (O+off) ys) (bo:=(rb (tg t) (tm t)).map fun b=>(b,0)) hsk hroot he hl (by simpa using ha) (mens_allSs (fun S hS b hb=>hro S (by rw [hM,if_neg hsk];exact hS) b hb) hm)
     (fun b q hb hbB _=>⟨rfl,setsW_same hbB⟩) (fun hb=>by rw [hsz];exact hb) rfl
     (fun o' y ho' hy=>⟨by rw [setsW_cell,if_neg (by rintro ⟨_,h1,h2⟩;exact ho' ⟨by omega,by omega⟩)];exact hy,hfacts.2.2.2.2.2 _ _⟩) (setsW_wrb hW) (fun o' ho'=>by
      have:o'=o:=by omega
      subst this;exact hrow')
    have hcd:∀i,i<cs'.length->cellD (setsW w B (O+off) ys) b i=cellD w b i:=fun i hi=>hsame.cD g5.rdb (Nat.zero_le _) hi
    exact ⟨_,b,rfl,g2,by rw [hsz];exact g3,g4,setsW_wrb g5,fun k j c e' hk=>by rw [hcd k (List.getElem?_eq_some_iff.1 hk).1];exact g6 k j c e' hk,
     RCL_get (fun i _ hi=>hcd i (by simpa using hi)) hup⟩
  | dead=>rw [hT] at ht;simp [TT.cts] at ht
  | alias=>rw [hT] at ht;simp [TT.cts] at ht
  | ptr=>rw [hT] at ht;simp [TT.cts] at ht
  | tup=>rw [hT] at ht;simp [TT.cts] at ht
 ·have hne:t≠r:=by omega
  simp only [upd,hne,if_false,h.out t ht'];simp [TT.killD,TT.kill]
 ·exact h.col b (by rw [<-hsz];exact hb)
 ·exact ⟨by rw [hsz];exact h.fr.size,fun b hb h0=>⟨(h.fr.kept b hb h0).1,by
   have hbB:b≠B:=by rintro rfl;rw [(h.fr.kept _ hb h0).1] at hκB;cases hκB
   rw [hfacts.2.2.2.2.1 b hbB];exact (h.fr.kept b hb h0).2⟩,by rw [hfacts.2.1];exact h.fr.os,by rw [hfacts.2.2.1];exact h.fr.out,by rw [hfacts.2.2.2.1];exact h.fr.tape⟩
end
end Go.Fw
namespace Go.Fw
def stF (r off n:Nat) (srcs:List Nat) (p:Pl):Option Pl:=
 if p.1=r then match p.2 with
  | k::q=>if off<=k/\k<off+n then none else some (r,k::q)
  | []=>some (r,[])
 else if p.1∈srcs then match p.2 with
  | k::q=>some (r,(off+k)::q)
  | []=>none
 else some p
theorem stF_M {r off n:Nat} {srcs:List Nat}:∀r' q p,stF r off n srcs (r',q)=some p->r'∉srcs->p=(r',q):=by
 intro r' q p h hr;unfold stF at h;by_cases h1:r'=r
 ·subst h1;simp only [if_true] at h;cases q with
  | nil=>simp at h;exact h.symm
  | cons k q=>
   simp only at h;split at h
   ·cases h
   ·cases h;rfl
 ·simp only [h1,hr,if_false] at h;cases h;rfl
def TT.killS (r:Nat) (mods M:List Nat):TT->TT
 | .ptr r' [] off S=>if r'=r then .ptr r' [] off S else (TT.ptr r' [] off S).kill mods M
 | x=>x.kill mods M
theorem deadR_RCL {κ κ':Col} {w w':World} {M:List Nat} {r off n:Nat} {cs:List CT} {get:Nat->Value} {ra:List A} (hro:∀S,(∀m,m∈M->m∉S)->∀b,okro κ w S b->okro κ' w' S b/\Same w w' b)
  (hm:CT.mens M cs=false) (ho:∀k b q,¬(off<=k/\k<off+n)->κ b=some (r,k::q)->κ' b=κ b/\Same w w' b) (h:RCL κ w cs (r,[]) 0 get ra):RCL κ' w' (deadR off n cs) (r,[]) 0 get ra:=by
 refine RCL_of_nth (by rw [deadR_length];exact RCL_length h) fun k c a hc ha => ?_
 rw [deadR_nth] at hc;cases hc0:cs[k]? with
 | none=>simp [hc0] at hc
 | some c0=>
  simp only [hc0,Option.map_some,Option.some.injEq] at hc;have h0:=RCL_nth h hc0 ha;split at hc
  ·subst hc;cases c0 with
   | d=>simp only [killAll];cases a with
    | v y=>simp only [RC] at h0 ⊢;exact h0
    | s xs=>simp [RC] at h0
   | sl m e=>simp only [killAll,RC]
  ·rename_i hk;subst hc;refine RC_stay (men_allS (fun S hS=>hro S hS) (mens_nth hm hc0)) (fun b q hb=>ho k b q hk ?_) h0;simpa [Pl.at] using hb
theorem splice_deadR {off:Nat} {cs x:List CT} (h:off+x.length<=cs.length):splice (deadR off x.length cs) off x=splice cs off x:=by
 apply List.ext_getElem?;intro k;rw [splice_nth (by rw [deadR_length];exact h),splice_nth h];split
 ·rw [deadR_nth];rename_i hk;cases cs[k]? with
  | none=>rfl
  | some c=>simp only [Option.map_some];rw [if_neg (by omega)]
 ·split
  ·rfl
  ·rw [deadR_nth];cases cs[k]? with
   | none=>rfl
   | some c=>simp only [Option.map_some];rw [if_neg (by omega)]
section
variable {ac:Nat->Nat->Value} {κ0 κ:Col} {w0 w w':World} {N:Nat} {tg:Nat->TT} {sv:Nat->AV} {tm:Nat->Value}
theorem R_store0 (h:R ac κ0 w0 κ w N tg sv tm) {r:Nat} (hrN:r<N) {cr:List CT} (ht:tg r = .box cr) {ra:List A} (hs:sv r = .v ra []) {srcs:List Nat} (hsf:FB∉srcs) (hsr:r∉srcs) {t:Nat} {cs:List CT} {vs:List Value}
  {as:List A} (hp:Part κ w srcs t cs vs as) {off:Nat} (hn:off+cs.length<=cr.length) (hm:CT.mens srcs cr=false) (hpin:noPin cs=true) :
  ∃B,tm r = .pointer (some ⟨B,0,none⟩)/\Wrb w B off (off+vs.length) /\
  R ac κ0 w0 (recol κ (stF r off cs.length srcs) none) (setsW w B off vs) N (upd (fun u=>if u∈srcs then .dead else (tg u).killS r (r::srcs) srcs) r (.box (splice cr off cs)))
   (upd sv r (.v (splice ra off as) [])) tm:=by
 have h1:=h.tr r;rw [ht] at h1;simp only [TR] at h1;obtain ⟨as',B,g1,g2,g3,g4,g5,g6,g7⟩:=h1;rw [hs] at g1;cases g1;have hvl:=hp.len;refine ⟨B,g2,g5.sub (Nat.zero_le _) (by omega),?_⟩;have hfacts:=setsW_facts vs w B off;have hsz:(setsW w B off vs).heap.size=w.heap.size:=hfacts.1;have hcol:∀b p,κ b=some p->recol κ (stF r off cs.length srcs) none b=stF r off cs.length srcs p:=fun b p hb=>recol_old (fun _ _ h=>by cases h) h.col hb
 have hro1:∀S,(∀m,m∈srcs->m∉S)->∀b,okro κ w S b->okro (recol κ (stF r off cs.length srcs) none) w S b/\Same w w b:=
  fun S hS b hb=>okro_recol (Grows.refl w) stF_M (fun _ _ h=>by cases h) hS b hb
 have hne:∀S b,okro κ w S b->b≠B:=by
  rintro S b hb rfl;exact (hb.2 _ _ g4).2 rfl
 have hro:∀S,(∀m,m∈srcs->m∉S)->∀b,okro κ w S b->okro (recol κ (stF r off cs.length srcs) none) (setsW w B off vs) S b/\Same w (setsW w B off vs) b:=
  fun S hS b hb=>⟨⟨by rw [hsz];exact (hro1 S hS b hb).1.1,(hro1 S hS b hb).1.2⟩,setsW_same (hne S b hb)⟩
 have hκB:recol κ (stF r off cs.length srcs) none B=some (r,[]):=by rw [hcol B _ g4];simp [stF]
 -- the new row,in the elder world
 have hrow1:RCL (recol κ (stF r off cs.length srcs) none) w (splice cr off cs) (r,[]) 0 (fun k=>(splice ((List.range cr.length).map (cellD w B)) off vs).getD k undef) (splice ra off as):=by
  rw [<-splice_deadR hn];refine RCL_splice ?_ (by simp [deadR_length]) ?_ hvl (by rw [deadR_length];exact hn)
  ·refine RCL_get (fun i _ hi => ?_) (deadR_RCL (M:=srcs) hro1 hm (fun k b q hk hb=>⟨?_,Same.refl w b⟩) g7)
   ·rw [deadR_length] at hi;simp at hi;simp [hi]
   ·rw [hcol b _ hb,hb];simp only [stF,if_true];rw [if_neg hk]
  ·by_cases hts:t∈srcs
   ·have:=RCL_moves (f:=id) (P:=fun S=>∀m,m∈srcs->m∉S) (κ':=recol κ (stF r off cs.length srcs) none) (w':=w) (p':=(r,[])) (j':=off) (get':=fun k=>vs.getD (k-off) undef) hro1
     (mens_allSs (fun S hS=>hS) hp.men) (fun i hi b q hb=>⟨?_,Same.refl w b⟩) (fun i hi=>by simp) hp.row
    ·rwa [mapSs_id] at this
    ·rw [hcol b _ hb];have htr:t≠r:=by rintro rfl;exact hsr hts
     simp [stF,htr,hts]
   ·exact RCL_copy (P:=fun S=>∀m,m∈srcs->m∉S) hro1 (hp.own.resolve_left hts) (mens_allSs (fun S hS=>hS) hp.men) (fun i hi=>by simp) hp.row
 have hcell:∀k,k<cr.length->cellD (setsW w B off vs) B k=(splice ((List.range cr.length).map (cellD w B)) off vs).getD k undef:=by
  intro k hk;rw [List.getD_eq_getElem?_getD,splice_nth (by simp;omega)];split
  ·unfold cellD;rw [setsW_cell,if_neg (by omega)];simp [hk]
  ·split
   ·have:=setsW_cellD (w:=w) (b:=B) (o:=off) (vs:=vs) (g5.sub (Nat.zero_le _) (by omega)) (k-off) (by omega);rw [show off+(k-off)=k from by omega] at this;rw [this,List.getD_eq_getElem?_getD]
   ·unfold cellD;rw [setsW_cell,if_neg (by omega)];simp [hk]
 have hspl:(splice cr off cs).length=cr.length:=splice_length hn;have hrow2:RCL (recol κ (stF r off cs.length srcs) none) (setsW w B off vs) (splice cr off cs) (r,[]) 0 (cellD (setsW w B off vs) B) (splice ra off as):=by
  refine RCL_stay (allSs_true (fun S b hb => ?_) _) (fun i hi b q hb=>⟨rfl,setsW_same ?_⟩) (fun i hi => ?_) hrow1
  ·have:b≠B:=by rintro rfl;exact (hb.2 _ _ hκB).2 rfl
   exact ⟨⟨by rw [hsz];exact hb.1,hb.2⟩,setsW_same this⟩
  ·rintro rfl;rw [hκB] at hb;simp at hb
  ·rw [Nat.zero_add];exact hcell i (by omega)
 refine R_step (mods:=r::srcs) (M:=srcs) h (by have:=h.nle;simp only [List.mem_cons,not_or];exact ⟨by omega,hsf⟩) hro (fun b r' q hr' hb => ?_) (fun u hu => ?_) (fun u hu => ?_) (fun u _=>rfl) (fun u hu => ?_) (fun u hu => ?_) (fun b hb => ?_) ?_
 ·simp at hr';refine ⟨?_,setsW_same ?_⟩
  ·rw [hcol b _ hb,hb];simp [stF,hr']
  ·rintro rfl;rw [g4] at hb;cases hb;exact hr'.1 rfl
 ·simp at hu;simp only [upd,hu.1,hu.2,if_false];cases hT:tg u with
  | ptr r' sk off' S'=>
   cases sk with
   | nil=>
    simp only [TT.killS];by_cases hrr:r'=r
    ·subst hrr;right;simp only [if_true];refine ⟨fun x=>by simp,?_⟩;have h2:=h.tr u;rw [hT] at h2;simp only [TR,upd_ne _ _ _ hu.1,ht,rb,g2,paddr] at h2 ⊢;obtain ⟨is',B',O',k1,k2,k3,k4,k5⟩:=h2;cases is' with
     | nil=>
      simp only [Option.map_some,wk,Option.some.injEq,Prod.mk.injEq] at k2;obtain ⟨rfl,rfl⟩:=k2;exact ⟨[],B,0,k1,by simp [upd,wk,rb],by simp [PO],fun b hb=>by simp [upd,rb] at hb;subst hb;exact hκB,k5⟩
     | cons=>simp [wk] at k2
    ·simp only [hrr,if_false];exact .inl trivial
   | cons s sk=>left;simp [TT.killS]
  | _=>left;simp [TT.killS]
 ·simp at hu;simp [upd,hu]
 ·by_cases hur:u=r
  ·subst hur;rw [upd_self];simp only [TR,upd_self];refine ⟨_,B,rfl,g2,by rw [hsz];exact g3,hκB,by rw [hspl];exact setsW_wrb g5,fun k j c e hk => ?_,hrow2⟩;rw [splice_nth hn] at hk;have hk':k<cr.length:=by
    split at hk
    ·omega
    ·split at hk
     ·omega
     ·exact (List.getElem?_eq_some_iff.1 hk).1
   rw [hcell k hk',List.getD_eq_getElem?_getD,splice_nth (by simp;omega)];split at hk
   ·rename_i h9;rw [if_pos h9];have:=g6 k j c e hk;simpa [hk'] using this
   ·split at hk
    ·exact noPin_pins (ac:=ac) (get:=fun _=>ac j c) hpin (k-off) j c e hk▸absurd hk (by
      intro hk
      have:=List.all_eq_true.1 hpin _ (List.mem_of_getElem? hk)
      simp at this)
    ·rename_i h8 h9;rw [if_neg h8,if_neg (by omega)];have:=g6 k j c e hk;simpa [hk'] using this
  ·simp [hur] at hu;simp [upd,hur,hu,TR]
 ·have hne':u≠r:=by omega
  simp only [upd,hne',if_false,h.out u hu];split
  ·rfl
  ·simp [TT.killS,TT.kill]
 ·rw [hsz] at hb;simp [recol,h.col b hb]
 ·refine ⟨by rw [hsz];exact h.fr.size,fun b hb h0 => ?_,by rw [hfacts.2.1];exact h.fr.os,by rw [hfacts.2.2.1];exact h.fr.out,by rw [hfacts.2.2.2.1];exact h.fr.tape⟩;have hk:=h.fr.kept b hb h0;have hbB:b≠B:=by rintro rfl;rw [hk.1] at g4;cases g4
  exact ⟨by simp [recol,hk.1],by rw [hfacts.2.2.2.2.1 b hbB];exact hk.2⟩
end
end Go.Fw
namespace Go.Fw
def apF (tx ty:Option Nat) (d m:Nat) (inp:Bool) (p:Pl):Option Pl:=
 if some p.1=tx then match p.2 with
  | [0]=>if inp then some (d,[0]) else none
  | 0::k::q=>some (d,0::k::q)
  | _=>none
 else if some p.1=ty then match p.2 with
  | 0::k::q=>some (d,0::(m+k)::q)
  | _=>none
 else if p.1=d then none else some p
theorem apF_M {tx ty:Option Nat} {d m:Nat} {inp:Bool} {srcs:List Nat} (hx:∀x,tx=some x->x∈srcs) (hy:∀y,ty=some y->y∈srcs) :
  ∀r q p,apF tx ty d m inp (r,q)=some p->r∉srcs->p=(r,q):=by
 intro r q p h hr;unfold apF at h;have h1:¬some r=tx:=fun he=>hr (hx r he.symm)
 have h2:¬some r=ty:=fun he=>hr (hy r he.symm)
 simp only [h1,h2,if_false] at h;split at h
 ·cases h
 ·cases h;rfl
section
variable {ac:Nat->Nat->Value} {κ0 κ:Col} {w0 w w':World} {N:Nat} {tg:Nat->TT} {sv:Nat->AV} {tm:Nat->Value}
theorem behind_len (w:World) (n:Nat) (ao:Option Addr) (h:n=0\/ao≠none):(behind w n ao).length=n:=by
 cases ao with
 | none=>rcases h with rfl|h
         ·rfl
         ·exact absurd rfl h
 | some a=>simp [behind]
theorem R_append {P:Program} {t t2 eT e2T:TypeId} {i:TypeInfo} {z:Value} {ty:TypeId} (hE:ElemOk P t eT i z) (ht2:P.underlying t2=some (.slice e2T))
  (h:R ac κ0 w0 κ w N tg sv tm) {d:Nat} (hd:d<N) {srcs:List Nat} (hsf:FB∉srcs) {e:List CT} (hen:e.length=i.size) {xs ys:List (List A)} {ao yo:Option Addr} {cap ycap:Nat} {tx:Option Nat} {yt:Nat}
  (hx:(tx=none/\xs=[]/\ao=none/\cap=0)\/∃x pin,tx=some x/\x∈srcs/\RC κ w (.sl (.own pin) e) (x,[0]) (.slice ao xs.length cap) (.s xs))
  (hy:ys=[]\/∃b o,yo=some ⟨b,o,none⟩/\Rdb w b o (o+ys.length*e.length)/\RCE κ w e (yt,[0]) 0 (fun j=>cellD w b (o+j)) ys)
  (hyo:yt∈srcs\/CT.nowns e=true) (hxy:tx≠some yt) (hm:CT.mens srcs e=false) (hlive:CT.lives e=true) (hlim:xs.length+ys.length<=4294967296) :
  ∃κ' w' v,(Builtin.append_ #[t,t2] ty #[.slice ao xs.length cap,.slice yo ys.length ycap]).run P w = .ok v w' /\
   R ac κ0 w0 κ' w' N (upd (fun u=>if u∈srcs then .dead else (tg u).kill (d::srcs) srcs) d (.val false [.sl (.own none) e])) (upd sv d (.v [.s (xs++ys)] [])) (upd tm d v):=by
 have hfb:FB∉d::srcs:=by have:=h.nle;simp only [List.mem_cons,not_or];exact ⟨by omega,hsf⟩
 -- what is appended to
 have hlen:xs.length<=cap:=by
  rcases hx with ⟨_,rfl,_,rfl⟩|⟨x,pin,_,_,hrc⟩
  ·simp
  ·simp only [RC] at hrc;obtain ⟨_,_,hh,hle,_⟩:=hrc;cases hh;exact hle
 have hs:(ao=none/\cap=0)\/∃b o,ao=some ⟨b,o,none⟩/\Wrb w b o (o+cap*i.size):=by
  rcases hx with ⟨_,_,h1,h2⟩|⟨x,pin,_,_,hrc⟩
  ·exact .inl ⟨h1,h2⟩
  ·simp only [RC] at hrc;obtain ⟨_,_,hh,hle,hc⟩:=hrc;cases hh;rcases hc with hc|⟨b,o,rfl,_,_,hw,_⟩
   ·exact .inl hc
   ·exact .inr ⟨b,o,rfl,by rw [hen] at hw;exact hw⟩
 have hyr:ys.length=0\/∃b o,yo=some ⟨b,o,none⟩/\Rdb w b o (o+ys.length*i.size):=by
  rcases hy with rfl|⟨b,o,h1,h2,_⟩
  ·exact .inl rfl
  ·exact .inr ⟨b,o,h1,by rw [<-hen];exact h2⟩
 -- the cells that are appended
 have hbl:(behind w (ys.length*i.size) yo).length=ys.length*i.size:=by
  refine behind_len w _ yo ?_;rcases hy with rfl|⟨b,o,rfl,_,_⟩
  ·exact .inl (by simp)
  ·exact .inr (by simp)
 have hbg:∀b o,yo=some ⟨b,o,none⟩->∀k,k<ys.length*i.size->(behind w (ys.length*i.size) yo).getD k undef=cellD w b (o+k):=by
  rintro b o rfl k hk;simp only [behind];exact getD_map_range hk
 have hb1:(behind w (ys.length*i.size) yo).all oneC=true:=by
  rw [List.all_eq_true];intro v hv;obtain ⟨k,hk,rfl⟩:=List.mem_iff_getElem.1 hv;rcases hy with rfl|⟨b,o,rfl,h2,h3⟩
  ·rw [hbl] at hk;simp at hk
  ·rw [hbl] at hk;have hpos:=hE.pos;have hkd:=hbg b o rfl k hk;rw [List.getD_eq_getElem?_getD,List.getElem?_eq_getElem (by rw [hbl];exact hk)] at hkd;simp only [Option.getD_some] at hkd;rw [hkd];have hrow:k / i.size<ys.length:=by rw [Nat.div_lt_iff_lt_mul hpos];exact hk
   have hr:=RCE_nth h3 (List.getElem?_eq_getElem hrow);have hc:k % i.size<e.length:=by rw [hen];exact Nat.mod_lt _ hpos
   have:=RCL_nth hr (List.getElem?_eq_getElem hc) (List.getElem?_eq_getElem (by rw [RCL_length hr];exact hc));have hf:=RC_flat (lives_nth hlive (List.getElem?_eq_getElem hc)) this;rw [show 0+k / i.size*e.length+k % i.size=k from by rw [hen,Nat.zero_add,Nat.mul_comm];exact Nat.div_add_mod k i.size] at hf;exact hf
 have hrun:=run_append (t:=t) (t2:=t2) (ty:=ty) (len:=xs.length) (n:=ys.length) (xc:=ycap) hE ht2 hlen hlim hs hyr hb1;have htxs:∀x,tx=some x->x∈srcs:=by
  rintro x rfl;rcases hx with ⟨h1,_⟩|⟨x',_,h1,h2,_⟩
  ·cases h1
  ·cases h1;exact h2
 obtain ⟨tyo,htyo⟩:∃tyo:Option Nat,(tyo=some yt/\yt∈srcs)\/(tyo=none/\CT.nowns e=true/\yt∉srcs):=by
  by_cases hm:yt∈srcs
  ·exact ⟨some yt,.inl ⟨rfl,hm⟩⟩
  ·exact ⟨none,.inr ⟨rfl,hyo.resolve_left hm,hm⟩⟩
 have htys:∀y,tyo=some y->y∈srcs:=by
  rintro y rfl;rcases htyo with ⟨h1,h2⟩|⟨h1,_⟩
  ·cases h1;exact h2
  ·cases h1
 have hallS:CT.allSs (fun S=>∀m,m∈srcs->m∉S) e:=mens_allSs (fun S hS=>hS) hm
 -- the rows,in the new colouring
 have rows:∀(κ':Col) (w':World) (inp:Bool) (get:Nat->Value),(∀b p,κ b=some p->κ' b=apF tx tyo d (xs.length*e.length) inp p) ->
   (∀S,(∀m,m∈srcs->m∉S)->∀b,okro κ w S b->okro κ' w' S b/\Same w w' b)->(∀b r q,(∃x,(tx=some x/\r=x)\/(tyo=some x/\r=x))->q≠[0]->κ b=some (r,q)->Same w w' b) ->
   (∀b o,ao=some ⟨b,o,none⟩->∀k,k<xs.length*e.length->get k=cellD w b (o+k))->(∀b o,yo=some ⟨b,o,none⟩->∀k,k<ys.length*e.length->get (xs.length*e.length+k)=cellD w b (o+k)) ->
   RCE κ' w' e (d,[0]) 0 get (xs++ys):=by
  intro κ' w' inp get hκ hro hsm hgx hgy;refine RCE_append (RCE_of_nth fun k x hk => ?_) (RCE_of_nth fun k y hk => ?_)
  ·have hkl:=(List.getElem?_eq_some_iff.1 hk).1;rcases hx with ⟨_,rfl,_⟩|⟨x',pin,rfl,hxs,hrc⟩
   ·simp at hkl
   ·simp only [RC] at hrc;obtain ⟨_,_,hh,hle,hc⟩:=hrc;cases hh;rcases hc with ⟨_,rfl⟩|⟨b,o,rfl,hbs,hb,hw,he⟩
    ·omega
    ·have hr:=RCE_nth he hk;have hin:=Nat.mul_le_mul_right e.length (show k+1<=xs.length by omega);rw [Nat.add_mul] at hin;have:=RCL_moves (f:=id) (P:=fun S=>∀m,m∈srcs->m∉S) (κ':=κ') (w':=w') (p':=(d,[0])) (j':=0+k*e.length) (get':=get) hro hallS (fun c hc b' q hb'=>⟨?_,?_⟩) (fun c hc => ?_) hr
     ·rwa [mapSs_id] at this
     ·rw [hκ b' _ hb'];simp [apF]
     ·exact hsm b' _ _ ⟨x',.inl ⟨rfl,rfl⟩⟩ (by simp) hb'
     ·rw [hgx b o rfl _ (by omega)]
  ·have hkl:=(List.getElem?_eq_some_iff.1 hk).1;rcases hy with rfl|⟨b,o,rfl,hrd,he⟩
   ·simp at hkl
   ·have hr:=RCE_nth he hk;have hin:=Nat.mul_le_mul_right e.length (show k+1<=ys.length by omega);rw [Nat.add_mul] at hin;rcases htyo with ⟨rfl,hys⟩|⟨rfl,hnown,_⟩
    ·have:=RCL_moves (f:=id) (P:=fun S=>∀m,m∈srcs->m∉S) (κ':=κ') (w':=w') (p':=(d,[0])) (j':=0+xs.length*e.length+k*e.length) (get':=get) hro hallS (fun c hc b' q hb'=>⟨?_,?_⟩) (fun c hc => ?_) hr
     ·rwa [mapSs_id] at this
     ·rw [hκ b' _ hb'];have hne:¬some yt=tx:=fun h=>hxy h.symm
      simp [apF,hne];omega
     ·exact hsm b' _ _ ⟨yt,.inr ⟨rfl,rfl⟩⟩ (by simp) hb'
     ·rw [show 0+xs.length*e.length+k*e.length+c=xs.length*e.length+(k*e.length+c) from by omega,hgy b o rfl _ (by omega)];congr 1;omega
    ·refine RCL_copy (P:=fun S=>∀m,m∈srcs->m∉S) hro hnown hallS (fun c hc => ?_) hr;rw [show 0+xs.length*e.length+k*e.length+c=xs.length*e.length+(k*e.length+c) from by omega,hgy b o rfl _ (by omega)];congr 1;omega
 have hFid:∀inp r q,r∉d::srcs->apF tx tyo d (xs.length*e.length) inp (r,q)=some (r,q):=by
  intro inp r q hr;simp at hr;have h1:¬some r=tx:=fun he=>hr.2 (htxs r he.symm)
  have h2:¬some r=tyo:=fun he=>hr.2 (htys r he.symm)
  simp [apF,h1,h2,hr.1]
 have hFM:=fun inp=>apF_M (d:=d) (m:=xs.length*e.length) (inp:=inp) htxs htys
 -- tags of the others
 have fin:∀(κ':Col) (w':World) (v:Value),TR ac κ' w' (upd (fun u=>if u∈srcs then .dead else (tg u).kill (d::srcs) srcs) d (.val false [.sl (.own none) e])) (upd sv d (.v [.s (xs++ys)] [])) (upd tm d v) d (.val false [.sl (.own none) e]) ->
   ∀u,u∈d::srcs->TR ac κ' w' (upd (fun u=>if u∈srcs then .dead else (tg u).kill (d::srcs) srcs) d (.val false [.sl (.own none) e])) (upd sv d (.v [.s (xs++ys)] [])) (upd tm d v) u
    (upd (fun u=>if u∈srcs then .dead else (tg u).kill (d::srcs) srcs) d (.val false [.sl (.own none) e]) u):=by
  intro κ' w' v hT u hu;by_cases hud:u=d
  ·subst hud;rw [upd_self];exact hT
  ·simp [hud] at hu;simp [upd,hud,hu,TR]
 have hout:∀u,N<=u->upd (fun u=>if u∈srcs then .dead else (tg u).kill (d::srcs) srcs) d (.val false [.sl (.own none) e]) u = .dead:=by
  intro u hu;have hne:u≠d:=by omega
  simp only [upd,hne,if_false];split
  ·rfl
  ·simp [h.out u hu,TT.kill]
 have htg:∀r,r∉d::srcs->upd (fun u=>if u∈srcs then .dead else (tg u).kill (d::srcs) srcs) d (.val false [.sl (.own none) e]) r=(tg r).kill (d::srcs) srcs:=by
  intro r hr;simp at hr;simp [upd,hr]
 rcases hrun with ⟨b,o,rfl,hle,hrun⟩|⟨h0,rfl,hrun⟩|⟨newCap,rest,hlt,hge,hrest,hrun⟩
 ·-- in place
  obtain ⟨x,pin,rfl,hxs,hrc⟩:∃x pin,tx=some x/\x∈srcs/\RC κ w (.sl (.own pin) e) (x,[0]) (.slice (some ⟨b,o,none⟩) xs.length cap) (.s xs):=by
   rcases hx with ⟨_,_,h1,_⟩|h1
   ·cases h1
   ·exact h1
  simp only [RC] at hrc;obtain ⟨_,_,hh,hle',hc⟩:=hrc;cases hh;rcases hc with ⟨hc,_⟩|⟨b',o',hc,hbs,hb,hw,he⟩
  ·cases hc
  cases hc;have hfacts:=setsW_facts (behind w (ys.length*i.size) yo) w b (o+xs.length*i.size);have hcolr:∀b p,κ b=some p->recol κ (apF (some x) tyo d (xs.length*e.length) true) none b=apF (some x) tyo d (xs.length*e.length) true p:=fun b p hb=>recol_old (fun _ _ h=>by cases h) h.col hb
  have hneb:∀S b',(∀m,m∈srcs->m∉S)->okro κ w S b'->b'≠b:=by
   rintro S b' hS hb' rfl;exact hS x hxs (hb'.2 _ _ hb).1
  have hro:∀S,(∀m,m∈srcs->m∉S)->∀b',okro κ w S b'->okro (recol κ (apF (some x) tyo d (xs.length*e.length) true) none) (setsW w b (o+xs.length*i.size) (behind w (ys.length*i.size) yo)) S b' /\
    Same w (setsW w b (o+xs.length*i.size) (behind w (ys.length*i.size) yo)) b':=by
   intro S hS b' hb';have:=(okro_recol (Grows.refl w) (hFM true) (nb:=none) (fun _ _ h=>by cases h) hS b' hb').1;exact ⟨⟨by rw [hfacts.1];exact this.1,this.2⟩,setsW_same (hneb S b' hS hb')⟩
  have hmul:=Nat.mul_le_mul_right i.size hle;rw [Nat.add_mul] at hmul;have hcells:∀k,k<xs.length*e.length->cellD (setsW w b (o+xs.length*i.size) (behind w (ys.length*i.size) yo)) b (o+k)=cellD w b (o+k):=by
   intro k hk;rw [hen] at hk;unfold cellD;rw [setsW_cell,if_neg (by omega)]
  refine ⟨_,_,_,hrun,R_step (κ':=recol κ (apF (some x) tyo d (xs.length*e.length) true) none) (mods:=d::srcs) (M:=srcs) h hfb hro (fun b' r q hr hb' => ?_) (fun r hr=>.inl (htg r hr)) (fun r hr => ?_) (fun r hr => ?_) (fin _ _ _ ?_) hout (fun b' hb' => ?_) ?_⟩
  ·refine ⟨by rw [hcolr b' _ hb',hFid true r q hr,hb'],setsW_same ?_⟩;rintro rfl;rw [hb] at hb';cases hb';simp at hr;exact hr.2 hxs
  ·simp at hr;simp [upd,hr]
  ·simp at hr;simp [upd,hr]
  ·simp only [TR,upd_self];refine ⟨_,[.slice (some ⟨b,o,none⟩) (xs.length+ys.length) cap],rfl,rfl,rfl,fun k j c e' hk=>by cases k<;>simp at hk,?_⟩;simp only [RCL,RC];refine ⟨⟨_,cap,by simp,by simpa using hle,.inr ⟨b,o,rfl,by rw [hfacts.1];exact hbs,by rw [hcolr b _ hb];simp [apF,Pl.at],setsW_wrb hw,?_⟩⟩,trivial⟩;have:=rows _ (setsW w b (o+xs.length*i.size) (behind w (ys.length*i.size) yo)) true (fun j=>cellD (setsW w b (o+xs.length*i.size) (behind w (ys.length*i.size) yo)) b (o+j)) hcolr hro
    (fun b' r q hr hq hb'=>setsW_same (by
     rintro rfl
     rw [hb] at hb';cases hb'
     exact hq rfl))
    (fun b1 o1 h1 k hk=>by cases h1;exact hcells k hk)
    (fun b1 o1 h1 k hk=>by
     rw [hen] at hk ⊢
     have hW:Wrb w b (o+xs.length*i.size) (o+xs.length*i.size+(behind w (ys.length*i.size) yo).length):=by
      rw [hbl];rw [hen] at hw;exact hw.sub (by omega) (by omega)
     have:=setsW_cellD hW k (by rw [hbl];exact hk)
     rw [<-hbg b1 o1 h1 k hk,<-this]
     congr 1;omega)
   simpa [Pl.at] using this
  ·rw [hfacts.1] at hb';simp [recol,h.col b' hb']
  ·refine ⟨by rw [hfacts.1];exact h.fr.size,fun b' hb' h0 => ?_,by rw [hfacts.2.1];exact h.fr.os,by rw [hfacts.2.2.1];exact h.fr.out,by rw [hfacts.2.2.2.1];exact h.fr.tape⟩;have hk:=h.fr.kept b' hb' h0;have hbB:b'≠b:=by rintro rfl;rw [hk.1] at hb;cases hb
   exact ⟨by simp [recol,hk.1],by rw [hfacts.2.2.2.2.1 b' hbB];exact hk.2⟩
 ·-- nothing to nothing
  have hx0:xs=[]:=List.length_eq_zero_iff.1 (by omega);have hy0:ys=[]:=List.length_eq_zero_iff.1 (by omega);refine ⟨_,_,_,hrun,R_mv (F:=apF tx tyo d (xs.length*e.length) false) (nb:=none) (mods:=d::srcs) (M:=srcs) h hfb (Grows.refl w) (hFid false) (hFM false) (fun _ _ h=>by cases h) htg (fun r hr => ?_) (fun r hr => ?_) (fin _ _ _ ?_) hout⟩
  ·simp at hr;simp [upd,hr]
  ·simp at hr;simp [upd,hr]
  ·simp only [TR,upd_self];refine ⟨_,[.slice none 0 0],rfl,rfl,rfl,fun k j c e' hk=>by cases k<;>simp at hk,?_⟩;simp only [RCL,RC];subst hx0;subst hy0;exact ⟨⟨none,0,by simp,by simp,.inl ⟨rfl,rfl⟩⟩,trivial⟩
 ·-- a new block
  have hgr:Grows w (pushW (drewW w) (behind w (xs.length*i.size) ao++behind w (ys.length*i.size) yo++rest).toArray eT):=(drewW_grows w).trans (pushW_grows _ _ _);have hal:(behind w (xs.length*i.size) ao).length=xs.length*i.size:=by
   refine behind_len w _ ao ?_;rcases hs with ⟨_,rfl⟩|⟨b,o,rfl,_⟩
   ·left;have:xs.length=0:=by omega
    rw [this];simp
   ·exact .inr (by simp)
  have hnb:∀b p,some (w.heap.size,((d,[0]):Pl))=some (b,p)->w.heap.size<=b:=fun b p h=>by cases h;exact Nat.le_refl _
  have hcolr:∀b p,κ b=some p->recol κ (apF tx tyo d (xs.length*e.length) false) (some (w.heap.size,(d,[0]))) b=apF tx tyo d (xs.length*e.length) false p:=fun b p hb=>recol_old hnb h.col hb
  have hro:∀S,(∀m,m∈srcs->m∉S)->∀b',okro κ w S b'->okro (recol κ (apF tx tyo d (xs.length*e.length) false) (some (w.heap.size,(d,[0])))) (pushW (drewW w) (behind w (xs.length*i.size) ao++behind w (ys.length*i.size) yo++rest).toArray eT) S b' /\
    Same w (pushW (drewW w) (behind w (xs.length*i.size) ao++behind w (ys.length*i.size) yo++rest).toArray eT) b':=fun S hS b' hb'=>okro_recol hgr (hFM false) hnb hS b' hb'
  refine ⟨_,_,_,hrun,R_mv (F:=apF tx tyo d (xs.length*e.length) false) (nb:=some (w.heap.size,(d,[0]))) (mods:=d::srcs) (M:=srcs) h hfb hgr (hFid false) (hFM false) (fun b p h=>by cases h;simp [pushW,drewW]) htg (fun r hr => ?_) (fun r hr => ?_) (fin _ _ _ ?_) hout⟩
  ·simp at hr;simp [upd,hr]
  ·simp at hr;simp [upd,hr]
  ·simp only [TR,upd_self];have hcD:∀k,cellD (pushW (drewW w) (behind w (xs.length*i.size) ao++behind w (ys.length*i.size) yo++rest).toArray eT) w.heap.size k=(behind w (xs.length*i.size) ao++behind w (ys.length*i.size) yo++rest).getD k undef:=by
    intro k;exact pushW_cellD (drewW w) _ eT k
   refine ⟨_,[.slice (some ⟨w.heap.size,0,none⟩) (xs.length+ys.length) newCap],rfl,rfl,rfl,fun k j c e' hk=>by cases k<;>simp at hk,?_⟩;simp only [RCL,RC];refine ⟨⟨_,newCap,by simp,by simpa using hge,.inr ⟨w.heap.size,0,rfl,by simp [pushW,drewW],by simp [recol,Pl.at],?_,?_⟩⟩,trivial⟩
   ·have:=pushW_wrb (drewW w) (behind w (xs.length*i.size) ao++behind w (ys.length*i.size) yo++rest).toArray eT 0 (0+newCap*e.length) (by
     simp only [List.size_toArray,List.length_append,hal,hbl,hrest,hen]
     have:newCap=(xs.length+ys.length)+(newCap-(xs.length+ys.length)):=by omega
     conv=>lhs;rw [this]
     rw [Nat.add_mul,Nat.add_mul];omega)
    exact this
   ·have:=rows _ (pushW (drewW w) (behind w (xs.length*i.size) ao++behind w (ys.length*i.size) yo++rest).toArray eT) false (fun j=>cellD (pushW (drewW w) (behind w (xs.length*i.size) ao++behind w (ys.length*i.size) yo++rest).toArray eT) w.heap.size j) hcolr hro
     (fun b' r q hr hq hb'=>hgr.same b')
     (fun b1 o1 h1 k hk=>by
      rw [hcD,List.getD_eq_getElem?_getD,List.append_assoc,List.getElem?_append_left (by rw [hal,<-hen];exact hk)]
      subst h1
      simp only [behind,hen] at hk ⊢
      simp [hk])
     (fun b1 o1 h1 k hk=>by
      rw [hen] at hk ⊢
      rw [hcD,List.getD_eq_getElem?_getD,List.append_assoc,List.getElem?_append_right (by rw [hal];omega),hal,List.getElem?_append_left (by rw [hbl];omega)]
      rw [show xs.length*i.size+k-xs.length*i.size=k from by omega,<-List.getD_eq_getElem?_getD]
      exact hbg b1 o1 h1 k hk)
    simpa [Pl.at] using this
end
end Go.Fw
