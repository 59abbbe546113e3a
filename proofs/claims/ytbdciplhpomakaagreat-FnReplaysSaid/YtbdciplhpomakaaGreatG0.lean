/- A way of showing what a function computes: the blocks of the heap are owned by the places that mh them; this is a part of it. No conditions. -/
import Derived.Calls
import Derived.IntWalk
import Derived.KernelRfl
set_option linter.unusedSectionVars false
namespace Go.Fw
abbrev ah:=Option
abbrev aa:=List
abbrev aj:=Value
abbrev aB:=World
abbrev aS:=Program
abbrev bQ:=Oper
abbrev iN:=Operand
abbrev zTd:=TypeDesc
theorem rO:type_of% @List.take_succ_eq_append_getElem:=@List.take_succ_eq_append_getElem
theorem abU:type_of% @Array.getElem?_setIfInBounds:=@Array.getElem?_setIfInBounds
theorem rP:type_of% @Array.getD_eq_getD_getElem?:=@Array.getD_eq_getD_getElem?
theorem uZ:type_of% @List.getElem?_append_right:=@List.getElem?_append_right
theorem aoQ:type_of% @Array.getElem?_eq_some_iff:=@Array.getElem?_eq_some_iff
theorem We:type_of% @Array.getElem?_eq_getElem:=@Array.getElem?_eq_getElem
theorem rQ:type_of% @List.getElem?_append_left:=@List.getElem?_append_left
theorem u6:type_of% @List.drop_eq_getElem_cons:=@List.drop_eq_getElem_cons
theorem abV:type_of% @List.mem_of_find?_eq_some:=@List.mem_of_find?_eq_some
theorem yV:type_of% @Classical.byContradiction:=@Classical.byContradiction
theorem RH:type_of% @List.pairwise_iff_getElem:=@List.pairwise_iff_getElem
theorem qV:type_of% @List.getElem?_take_of_lt:=@List.getElem?_take_of_lt
theorem agn:type_of% @Array.getElem?_replicate:=@Array.getElem?_replicate
theorem qW:type_of% @List.length_eq_zero_iff:=@List.length_eq_zero_iff
theorem Co:type_of% @List.getElem?_cons_zero:=@List.getElem?_cons_zero
theorem Kn:type_of% @List.getElem?_cons_succ:=@List.getElem?_cons_succ
theorem agp:type_of% @List.getElem?_replicate:=@List.getElem?_replicate
theorem Cq:type_of% @Option.bind_eq_some_iff:=@Option.bind_eq_some_iff
theorem XU:type_of% @List.getElem?_set_self:=@List.getElem?_set_self
theorem dh:type_of% @Option.map_eq_some_iff:=@Option.map_eq_some_iff
theorem agq:type_of% @Array.getElem?_eq_none:=@Array.getElem?_eq_none
theorem RI:type_of% @List.take_of_length_le:=@List.take_of_length_le
theorem ags:type_of% @List.findIdx_lt_length:=@List.findIdx_lt_length
theorem Ko:type_of% @List.singleton_append:=@List.singleton_append
theorem sQ:type_of% @List.getElem?_toArray:=@List.getElem?_toArray
theorem z_:type_of% @List.length_replicate:=@List.length_replicate
theorem Kq:type_of% @List.length_singleton:=@List.length_singleton
theorem jJ:type_of% @List.mem_append_right:=@List.mem_append_right
theorem Aa:type_of% @List.getElem?_eq_none:=@List.getElem?_eq_none
theorem qX:type_of% @List.length_filter_le:=@List.length_filter_le
theorem XV:type_of% @Nat.eq_of_beq_eq_true:=@Nat.eq_of_beq_eq_true
theorem Kr:type_of% @List.take_append_drop:=@List.take_append_drop
theorem jK:type_of% @Nat.mul_le_mul_right:=@Nat.mul_le_mul_right
theorem nL:type_of% @Bool.or_eq_false_iff:=@Bool.or_eq_false_iff
theorem eZ:type_of% @List.mem_of_getElem?:=@List.mem_of_getElem?
theorem FZ:type_of% @List.mem_iff_getElem:=@List.mem_iff_getElem
theorem jr:type_of% @List.mem_append_left:=@List.mem_append_left
theorem dU:type_of% @List.mem_cons_of_mem:=@List.mem_cons_of_mem
theorem XW:type_of% @List.findIdx_getElem:=@List.findIdx_getElem
theorem Ab:type_of% @List.take_succ_cons:=@List.take_succ_cons
theorem RJ:type_of% @List.map_congr_left:=@List.map_congr_left
theorem RL:type_of% @Array.length_toList:=@Array.length_toList
theorem wJ:type_of% @List.getElem_of_mem:=@List.getElem_of_mem
theorem uM:type_of% @List.getD_cons_zero:=@List.getD_cons_zero
theorem jL:type_of% @Int.toNat_of_nonneg:=@Int.toNat_of_nonneg
theorem RN:type_of% @List.getElem?_range:=@List.getElem?_range
theorem XX:type_of% @List.filter_sublist:=@List.filter_sublist
theorem pO:type_of% @Nat.lt_of_lt_of_le:=@Nat.lt_of_lt_of_le
theorem iP:type_of% @Bool.false_eq_true:=@Bool.false_eq_true
theorem pQ:type_of% @List.getElem?_drop:=@List.getElem?_drop
theorem Kt:type_of% @List.zip_cons_cons:=@List.zip_cons_cons
theorem XY:type_of% @List.length_zipIdx:=@List.length_zipIdx
theorem cB:type_of% @List.mem_singleton:=@List.mem_singleton
theorem dX:type_of% @List.mem_cons_self:=@List.mem_cons_self
theorem XZ:type_of% @Int.natCast_nonneg:=@Int.natCast_nonneg
theorem RO:type_of% @List.filter_append:=@List.filter_append
theorem RP:type_of% @Nat.add_left_comm:=@Nat.add_left_comm
theorem lW:type_of% @List.append_assoc:=@List.append_assoc
theorem RQ:type_of% @List.any_eq_false:=@List.any_eq_false
theorem kM:type_of% @List.getElem?_map:=@List.getElem?_map
theorem sU:type_of% @List.length_range:=@List.length_range
theorem Ku:type_of% @List.flatten_cons:=@List.flatten_cons
theorem X0:type_of% @List.ext_getElem?:=@List.ext_getElem?
theorem Kv:type_of% @Option.mem_toList:=@Option.mem_toList
theorem sV:type_of% @Bool.not_eq_true':=@Bool.not_eq_true'
theorem X3:type_of% @List.flatMap_cons:=@List.flatMap_cons
theorem Cr:type_of% @List.getElem?_set:=@List.getElem?_set
theorem pR:type_of% @List.foldl_append:=@List.foldl_append
theorem RU:type_of% @List.nodup_append:=@List.nodup_append
theorem ny:type_of% @List.cons_append:=@List.cons_append
theorem sW:type_of% @Nat.lt_of_not_le:=@Nat.lt_of_not_le
theorem bX:type_of% @List.all_eq_true:=@List.all_eq_true
theorem X4:type_of% @Array.toList_map:=@Array.toList_map
theorem X5:type_of% @List.ext_getElem:=@List.ext_getElem
theorem nM:type_of% @List.getElem_mem:=@List.getElem_mem
theorem X6:type_of% @List.map_toArray:=@List.map_toArray
theorem Cs:type_of% @List.mem_flatMap:=@List.mem_flatMap
theorem sZ:type_of% @List.length_drop:=@List.length_drop
theorem nN:type_of% @List.take_length:=@List.take_length
theorem tq:type_of% @List.not_mem_nil:=@List.not_mem_nil
theorem iD:type_of% @List.length_take:=@List.length_take
theorem nO:type_of% @List.any_eq_true:=@List.any_eq_true
theorem Kw:type_of% @List.filter_cons:=@List.filter_cons
theorem dY:type_of% @List.length_map:=@List.length_map
theorem dA:type_of% @Option.map_some:=@Option.map_some
theorem iE:type_of% @Bool.or_eq_true:=@Bool.or_eq_true
theorem bS:type_of% @List.length_nil:=@List.length_nil
theorem gK:type_of% @List.foldl_cons:=@List.foldl_cons
theorem bJ:type_of% @List.mem_append:=@List.mem_append
theorem gX:type_of% @List.nil_append:=@List.nil_append
theorem nz:type_of% @List.append_nil:=@List.append_nil
theorem RV:type_of% @List.cons.injEq:=@List.cons.injEq
theorem uN:type_of% @List.map_append:=@List.map_append
theorem jQ:type_of% @List.mem_filter:=@List.mem_filter
theorem nP:type_of% @List.nodup_cons:=@List.nodup_cons
theorem tu:type_of% @List.drop_zero:=@List.drop_zero
theorem jg:type_of% @List.mem_range:=@List.mem_range
theorem kN:type_of% @Nat.add_assoc:=@Nat.add_assoc
theorem di:type_of% @Prod.mk.injEq:=@Prod.mk.injEq
theorem bz:type_of% @List.map_cons:=@List.map_cons
theorem Dv:type_of% @List.all_cons:=@List.all_cons
theorem a_:type_of% @List.mem_cons:=@List.mem_cons
theorem wK:type_of% @Bool.false_or:=@Bool.false_or
theorem wL:type_of% @Bool.and_true:=@Bool.and_true
theorem dZ:type_of% @Bool.true_and:=@Bool.true_and
theorem wM:type_of% @Bool.and_self:=@Bool.and_self
theorem dG:type_of% @Nat.zero_add:=@Nat.zero_add
theorem kz:type_of% @Nat.le_trans:=@Nat.le_trans
theorem AJ:type_of% @List.map_map:=@List.map_map
theorem qd:type_of% @Nat.add_zero:=@Nat.add_zero
theorem bM:type_of% @List.map_nil:=@List.map_nil
theorem bY:type_of% @List.mem_map:=@List.mem_map
theorem rR:type_of% @Nat.sub_zero:=@Nat.sub_zero
theorem eY:type_of% @Nat.le_refl:=@Nat.le_refl
theorem eu:type_of% @Nat.add_mul:=@Nat.add_mul
theorem AL:type_of% @Nat.one_mul:=@Nat.one_mul
theorem wN:type_of% @Nat.zero_le:=@Nat.zero_le
theorem h_:type_of% @Ne.symm:=@Ne.symm
theorem ae {α β:Type _} (a:α) (f:α→ah β):Option.bind (some a) f=f a:=rfl
theorem aT {α:Type _} {l:aa α} {i:Nat} (h:i<l.length):l[i]?=some l[i]:=List.getElem?_eq_getElem h
theorem bf {α:Type _} {l:aa α} {i:Nat} {a:α} (h:l[i]?=some a):∃h:i<l.length,l[i]=a:=List.getElem?_eq_some_iff.1 h
theorem ak {p:Prop} [Decidable p] (h:p):decide p=true:=decide_eq_true h
theorem aA {p:Prop} [Decidable p] (h:¬p):decide p=false:=decide_eq_false h
theorem ax {α:Sort _} (a b:α):cond false a b=b:=rfl
theorem ai {α:Sort _} (a b:α):cond true a b=a:=rfl
theorem aO {α:Type _} (a b:α):(some a=some b)=(a=b):=Option.some.injEq a b
theorem aU (a b:Bool):((a&&b)=true)=(a=true/\b=true):=Bool.and_eq_true a b
theorem iB (n:Nat):(n:Int).toNat=n:=rfl
theorem dR {α:Type _} {a b:aa α}:(a++b).length=a.length+b.length:=List.length_append
theorem bI {α:Type _} {a:α} {l:aa α}:(a::l).length=l.length+1:=rfl
theorem lX {α:Type _} {l:aa α} {i:Nat} {a:α}:(l.set i a).length=l.length:=List.length_set
theorem dw {α:Type _} {l:aa α} {i:Nat} {a:α}:l.getD i a=(l[i]?).getD a:=List.getD_eq_getElem?_getD
theorem bC:(!true)=false:=rfl
theorem ib:(!false)=true:=rfl
inductive A where
 | v (x:Value)
 | s (xs:List (List A))
inductive Md where
 | own (pin:Option (Nat × Nat))
 | ro (S:List Nat)
 | dead
 deriving DecidableEq
inductive CT where
 | d
 | sl (m:Md) (e:List CT)
abbrev Pl:=Nat × List Nat
abbrev aP:=Nat->Option Pl
def Pl.at (p:Pl) (j:Nat):Pl:=(p.1,p.2++[j])
def bn (κ:aP) (w:aB) (S:aa Nat) (b:Nat):Prop:=b<w.heap.size/\∀r p,κ b=some (r,p)->r∈S/\p≠[]
def cellD (w:aB) (b o:Nat):aj:=(w.cell? ⟨b,o,none⟩).getD undef
def sc:aj->Bool
 | .bool _ | .int _ _ | .string _=>true
 | _=>false
def Rdb (w:aB) (b lo hi:Nat):Prop:=∀o,lo<=o->o<hi->∃x,w.cell? ⟨b,o,none⟩=some x
def Wrb (w:aB) (b lo hi:Nat):Prop:=∀o,lo<=o->o<hi->(∃x,w.cell? ⟨b,o,none⟩=some x)/\w.frozen? ⟨b,o,none⟩=false
mutual
def RC (κ:aP) (w:aB):CT->Pl->aj->A->Prop
 | .d,_,x,.v y=>x=y/\sc y=true
 | .sl (.own _) e,p,x,.s xs=>∃ao cap,x = .slice ao xs.length cap/\xs.length<=cap /\
   ((ao=none/\cap=0)\/∃b o,ao=some ⟨b,o,none⟩/\b<w.heap.size/\κ b=some p/\Wrb w b o (o+cap*e.length)/\dC κ w e p 0 (fun j=>cellD w b (o+j)) xs)
 | .sl (.ro S) e,p,x,.s xs=>∃ao cap,x = .slice ao xs.length cap/\xs.length<=cap /\
   (xs=[]\/∃b o,ao=some ⟨b,o,none⟩/\bn κ w S b/\Rdb w b o (o+xs.length*e.length)/\dC κ w e p 0 (fun j=>cellD w b (o+j)) xs)
 | .sl .dead _,_,_,_=>True
 | _,_,_,_=>False
def aC (κ:aP) (w:aB):aa CT->Pl->Nat->(Nat->aj)->aa A->Prop
 | [],_,_,_,[]=>True
 | c::cs,p,j,get,a::as=>RC κ w c (p.at j) (get j) a/\aC κ w cs p (j+1) get as
 | _,_,_,_,_=>False
def dC (κ:aP) (w:aB):aa CT->Pl->Nat->(Nat->aj)->aa (aa A)->Prop
 | _,_,_,_,[]=>True
 | e,p,j,get,x::xs=>aC κ w e p j get x/\dC κ w e p (j+e.length) get xs
end
mutual
def CT.mapS (f:aa Nat->aa Nat):CT->CT
 | .d=>.d
 | .sl (.ro S) e=>.sl (.ro (f S)) (CT.mapSs f e)
 | .sl m e=>.sl m (CT.mapSs f e)
def CT.mapSs (f:aa Nat->aa Nat):aa CT->aa CT
 | []=>[]
 | c::cs=>c.mapS f::CT.mapSs f cs
end
mutual
def CT.roize (S:aa Nat):CT->CT
 | .d=>.d
 | .sl _ e=>.sl (.ro S) (CT.roizes S e)
def CT.roizes (S:aa Nat):aa CT->aa CT
 | []=>[]
 | c::cs=>c.roize S::CT.roizes S cs
end
mutual
def CT.allS (P:aa Nat->Prop):CT->Prop
 | .d=>True
 | .sl (.ro S) e=>P S/\CT.allSs P e
 | .sl _ e=>CT.allSs P e
def CT.allSs (P:aa Nat->Prop):aa CT->Prop
 | []=>True
 | c::cs=>c.allS P/\CT.allSs P cs
end
mutual
def CT.live:CT->Bool
 | .d=>true
 | .sl .dead _=>false
 | .sl _ e=>CT.lives e
def CT.lives:aa CT->Bool
 | []=>true
 | c::cs=>c.live&&CT.lives cs
end
theorem gy (f:aa Nat->aa Nat) (cs:aa CT):(CT.mapSs f cs).length=cs.length:=by
 induction cs with
 | nil=>simp [CT.mapSs]
 | cons c cs ih=>simp [CT.mapSs,ih]
theorem dx (S:aa Nat) (cs:aa CT):(CT.roizes S cs).length=cs.length:=by
 induction cs with
 | nil=>simp [CT.roizes]
 | cons c cs ih=>simp [CT.roizes,ih]
theorem aAs (f:aa Nat->aa Nat):CT.mapS f .d = .d:=by simp [CT.mapS]
theorem avP (f:aa Nat->aa Nat) (k:ah (Nat × Nat)) (e:aa CT):CT.mapS f (.sl (.own k) e) = .sl (.own k) (CT.mapSs f e):=by simp [CT.mapS]
theorem aza (f:aa Nat->aa Nat) (S:aa Nat) (e:aa CT):CT.mapS f (.sl (.ro S) e) = .sl (.ro (f S)) (CT.mapSs f e):=by simp [CT.mapS]
theorem arV (f:aa Nat->aa Nat) (e:aa CT):CT.mapS f (.sl .dead e) = .sl .dead (CT.mapSs f e):=by simp [CT.mapS]
theorem dE {κ:aP} {w:aB}:∀{cs:aa CT} {p:Pl} {j:Nat} {get:Nat->aj} {as:aa A},aC κ w cs p j get as->as.length=cs.length
 | [],_,_,_,[],_=>rfl
 | c::cs,p,j,get,a::as,h=>by
  simp only [aC] at h;simp [dE h.2]
 | [],_,_,_,_::_,h=>by simp [aC] at h
 | _::_,_,_,_,[],h=>by simp [aC] at h
theorem mO {κ:aP} {w:aB} {p:Pl} {get get':Nat->aj}:∀{cs:aa CT} {j:Nat} {as:aa A},(∀i,j<=i->i<j+cs.length->get' i=get i) ->
  aC κ w cs p j get as->aC κ w cs p j get' as
 | [],_,[],_,_=>by simp [aC]
 | c::cs,j,a::as,hg,h=>by
  simp only [aC] at h ⊢;refine ⟨?_,mO (fun i h1 h2=>hg i (by omega) (by simp;omega)) h.2⟩;rw [hg j (eY _) (by simp)];exact h.1
 | [],_,_::_,_,h=>by simp [aC] at h
 | _::_,_,[],_,h=>by simp [aC] at h
theorem Jh {κ:aP} {w:aB} {p:Pl} {get get':Nat->aj} {e:aa CT}:∀{j:Nat} {xs:aa (aa A)},(∀i,j<=i->i<j+xs.length*e.length->get' i=get i) ->
  dC κ w e p j get xs->dC κ w e p j get' xs
 | _,[],_,_=>by simp [dC]
 | j,x::xs,hg,h=>by
  simp only [dC] at h ⊢;have hl:(x::xs).length*e.length=xs.length*e.length+e.length:=by simp [eu]
  refine ⟨mO (fun i h1 h2=>hg i h1 (by omega)) h.1,Jh (fun i h1 h2=>hg i (by omega) (by omega)) h.2⟩
def Same (w w':aB) (b:Nat):Prop:=(b<w.heap.size->b<w'.heap.size)/\∀o x,w.cell? ⟨b,o,none⟩=some x->w'.cell? ⟨b,o,none⟩=some x/\w'.frozen? ⟨b,o,none⟩=w.frozen? ⟨b,o,none⟩
theorem Same.refl (w:aB) (b:Nat):Same w w b:=⟨id,fun _ _ h=>⟨h,rfl⟩⟩
theorem Same.rdb {w w':aB} {b lo hi:Nat} (h:Same w w' b) (hr:Rdb w b lo hi):Rdb w' b lo hi:=
 fun o h1 h2=>let ⟨x,hx⟩:=hr o h1 h2;⟨x,(h.2 o x hx).1⟩
theorem Same.wrb {w w':aB} {b lo hi:Nat} (h:Same w w' b) (hr:Wrb w b lo hi):Wrb w' b lo hi:=
 fun o h1 h2=>let ⟨⟨x,hx⟩,hf⟩:=hr o h1 h2;⟨⟨x,(h.2 o x hx).1⟩,by rw [(h.2 o x hx).2];exact hf⟩
theorem Same.cD {w w':aB} {b lo hi o:Nat} (h:Same w w' b) (hr:Rdb w b lo hi) (h1:lo<=o) (h2:o<hi):cellD w' b o=cellD w b o:=by
 obtain ⟨x,hx⟩:=hr o h1 h2;simp [Fw.cellD,hx,(h.2 o x hx).1]
theorem Wrb.rdb {w:aB} {b lo hi:Nat} (h:Wrb w b lo hi):Rdb w b lo hi:=fun o h1 h2=>(h o h1 h2).1
theorem Wrb.sub {w:aB} {b lo hi lo' jB:Nat} (h:Wrb w b lo hi) (h1:lo<=lo') (h2:jB<=hi):Wrb w b lo' jB:=fun o g1 g2=>h o (by omega) (by omega)
theorem Rdb.sub {w:aB} {b lo hi lo' jB:Nat} (h:Rdb w b lo hi) (h1:lo<=lo') (h2:jB<=hi):Rdb w b lo' jB:=fun o g1 g2=>h o (by omega) (by omega)
section move
variable {κ κ':aP} {w w':aB} {f:aa Nat->aa Nat} {P:aa Nat->Prop}
mutual
theorem Ji (bu:∀S,P S->∀b,bn κ w S b->bn κ' w' (f S) b/\Same w w' b):∀{c:CT} {p p':Pl} {x:aj} {a:A},c.allS P ->
  (∀b q,κ b=some (p.1,p.2++q)->κ' b=some (p'.1,p'.2++q)/\Same w w' b)->RC κ w c p x a->RC κ' w' (c.mapS f) p' x a
 | .d,p,p',x,.v y,_,_,h=>by rw [aAs];simp only [RC] at h ⊢;exact h
 | .sl (.own k) e,p,p',x,.s xs,hs,ho,h=>by
  rw [avP];simp only [RC,CT.allS] at h hs ⊢;obtain ⟨ao,cap,hx,df,hc⟩:=h;refine ⟨ao,cap,hx,df,?_⟩;rcases hc with hn|⟨b,o,rfl,wF,hb,hw,he⟩
  ·exact .inl hn
  ·obtain ⟨cO,fO⟩:=ho b [] (by simpa using hb);have hr:=hw.rdb;refine .inr ⟨b,o,rfl,fO.1 wF,by simpa using cO,by rw [gy];exact fO.wrb hw,?_⟩;refine Jh (fun i _ hi => ?_) (Ky bu hs ho he);rw [gy] at hi;have:=jK e.length df;exact fO.cD hr (by omega) (by omega)
 | .sl (.ro S) e,p,p',x,.s xs,hs,ho,h=>by
  rw [aza];simp only [RC,CT.allS] at h hs ⊢;obtain ⟨ao,cap,hx,df,hc⟩:=h;refine ⟨ao,cap,hx,df,?_⟩;rcases hc with hn|⟨b,o,rfl,hb,hr,he⟩
  ·exact .inl hn
  ·obtain ⟨cO,fO⟩:=bu S hs.1 b hb;refine .inr ⟨b,o,rfl,cO,by rw [gy];exact fO.rdb hr,?_⟩;refine Jh (fun i _ hi => ?_) (Ky bu hs.2 ho he);rw [gy] at hi;exact fO.cD hr (by omega) (by omega)
 | .sl .dead e,p,p',x,a,_,_,_=>by rw [arV];cases a<;>simp [RC]
 | .d,_,_,_,.s _,_,_,h=>by simp [RC] at h
 | .sl (.own _) _,_,_,_,.v _,_,_,h=>by simp [RC] at h
 | .sl (.ro _) _,_,_,_,.v _,_,_,h=>by simp [RC] at h
theorem agO (bu:∀S,P S->∀b,bn κ w S b->bn κ' w' (f S) b/\Same w w' b):∀{cs:aa CT} {p p':Pl} {j:Nat} {get:Nat->aj} {as:aa A},CT.allSs P cs ->
  (∀b q,κ b=some (p.1,p.2++q)->κ' b=some (p'.1,p'.2++q)/\Same w w' b)->aC κ w cs p j get as->aC κ' w' (CT.mapSs f cs) p' j get as
 | [],_,_,_,_,[],_,_,_=>by simp [CT.mapSs,aC]
 | c::cs,p,p',j,get,a::as,hs,ho,h=>by
  simp only [CT.mapSs,CT.allSs,aC] at h hs ⊢;refine ⟨Ji bu hs.1 (fun b q hb => ?_) h.1,agO bu hs.2 ho h.2⟩;have:=ho b (j::q) (by simpa [Pl.at] using hb);simpa [Pl.at] using this
 | [],_,_,_,_,_::_,_,_,h=>by simp [aC] at h
 | _::_,_,_,_,_,[],_,_,h=>by simp [aC] at h
theorem Ky (bu:∀S,P S->∀b,bn κ w S b->bn κ' w' (f S) b/\Same w w' b):∀{e:aa CT} {p p':Pl} {j:Nat} {get:Nat->aj} {xs:aa (aa A)},CT.allSs P e ->
  (∀b q,κ b=some (p.1,p.2++q)->κ' b=some (p'.1,p'.2++q)/\Same w w' b)->dC κ w e p j get xs->dC κ' w' (CT.mapSs f e) p' j get xs
 | _,_,_,_,_,[],_,_,_=>by simp [dC]
 | e,p,p',j,get,x::xs,hs,ho,h=>by
  simp only [dC] at h ⊢;rw [gy];exact ⟨agO bu hs ho h.1,Ky bu hs ho h.2⟩
end
end move
section look
variable {κ:aP} {w:aB} {S:aa Nat}
theorem F3 {S':aa Nat} {b:Nat} (h:bn κ w S b) (hs:∀r,r∈S->r∈S'):bn κ w S' b:=⟨h.1,fun r p hb=>⟨hs r (h.2 r p hb).1,(h.2 r p hb).2⟩⟩
theorem amn {b:Nat} {p:Pl} (hb:b<w.heap.size) (h:κ b=some p) (hp:p.1∈S) (h0:p.2≠[]):bn κ w S b:=⟨hb,fun r q hb=>by rw [h] at hb;cases hb;exact ⟨hp,h0⟩⟩
mutual
theorem aoR:∀{c:CT} {p p':Pl} {x:aj} {a:A},c.live=true->p.1∈S->p.2≠[]->c.allS (fun S0=>∀r,r∈S0->r∈S)->RC κ w c p x a->RC κ w (c.roize S) p' x a
 | .d,_,_,_,.v _,_,_,_,_,h=>by simp only [CT.roize,RC] at h ⊢;exact h
 | .sl (.own k) e,p,p',x,.s xs,hl,hp,h0,hs,h=>by
  simp only [CT.roize,RC,CT.allS,CT.live] at h hs hl ⊢;obtain ⟨ao,cap,hx,df,hc⟩:=h;refine ⟨ao,cap,hx,df,?_⟩;rcases hc with ⟨rfl,rfl⟩|⟨b,o,rfl,wF,hb,hw,he⟩
  ·exact .inl (qW.1 (by omega))
  ·have:=jK e.length df;refine .inr ⟨b,o,rfl,amn wF hb hp h0,by rw [dx];exact hw.rdb.sub (eY _) (by omega),?_⟩;exact agP hl hp hs he
 | .sl (.ro S0) e,p,p',x,.s xs,hl,hp,h0,hs,h=>by
  simp only [CT.roize,RC,CT.allS,CT.live] at h hs hl ⊢;obtain ⟨ao,cap,hx,df,hc⟩:=h;refine ⟨ao,cap,hx,df,?_⟩;rcases hc with hn|⟨b,o,rfl,hb,hr,he⟩
  ·exact .inl hn
  ·exact .inr ⟨b,o,rfl,F3 hb hs.1,by rw [dx];exact hr,agP hl hp hs.2 he⟩
 | .sl .dead e,_,_,_,_,hl,_,_,_,_=>by simp [CT.live] at hl
 | .d,_,_,_,.s _,_,_,_,_,h=>by simp [RC] at h
 | .sl (.own _) _,_,_,_,.v _,_,_,_,_,h=>by simp [RC] at h
 | .sl (.ro _) _,_,_,_,.v _,_,_,_,_,h=>by simp [RC] at h
theorem arW:∀{cs:aa CT} {p p':Pl} {j:Nat} {get:Nat->aj} {as:aa A},CT.lives cs=true->p.1∈S->CT.allSs (fun S0=>∀r,r∈S0->r∈S) cs ->
  aC κ w cs p j get as->aC κ w (CT.roizes S cs) p' j get as
 | [],_,_,_,_,[],_,_,_,_=>by simp [CT.roizes,aC]
 | c::cs,p,p',j,get,a::as,hl,hp,hs,h=>by
  simp only [CT.roizes,CT.allSs,CT.lives,aC,aU] at h hs hl ⊢;exact ⟨aoR (p:=p.at j) hl.1 hp (by simp [Pl.at]) hs.1 h.1,arW hl.2 hp hs.2 h.2⟩
 | [],_,_,_,_,_::_,_,_,_,h=>by simp [aC] at h
 | _::_,_,_,_,_,[],_,_,_,h=>by simp [aC] at h
theorem agP:∀{e:aa CT} {p p':Pl} {j:Nat} {get:Nat->aj} {xs:aa (aa A)},CT.lives e=true->p.1∈S->CT.allSs (fun S0=>∀r,r∈S0->r∈S) e ->
  dC κ w e p j get xs->dC κ w (CT.roizes S e) p' j get xs
 | _,_,_,_,_,[],_,_,_,_=>by simp [dC]
 | e,p,p',j,get,x::xs,hl,hp,hs,h=>by
  simp only [dC] at h ⊢;rw [dx];exact ⟨arW hl hp hs h.1,agP hl hp hs h.2⟩
end
end look
end Go.Fw
namespace Go.Fw
theorem mQ {κ:aP} {w:aB} {p:Pl} {get:Nat->aj}:∀(k:Nat) {cs:aa CT} {j:Nat} {as:aa A},aC κ w cs p j get as ->
  aC κ w (cs.drop k) p (j+k) get (as.drop k)
 | 0,_,_,_,h=>by simpa using h
 | k+1,[],j,[],_=>by simp [aC]
 | k+1,c::cs,j,a::as,h=>by
  simp only [aC] at h;have:=mQ k h.2;simpa [Nat.add_comm,RP,kN] using this
 | _+1,[],_,_::_,h=>by simp [aC] at h
 | _+1,_::_,_,[],h=>by simp [aC] at h
theorem mR {κ:aP} {w:aB} {p:Pl} {get:Nat->aj}:∀(k:Nat) {cs:aa CT} {j:Nat} {as:aa A},aC κ w cs p j get as ->
  aC κ w (cs.take k) p j get (as.take k)
 | 0,_,_,_,_=>by simp [aC]
 | k+1,[],j,[],_=>by simp [aC]
 | k+1,c::cs,j,a::as,h=>by
  simp only [aC,Ab] at h ⊢;exact ⟨h.1,mR k h.2⟩
 | _+1,[],_,_::_,h=>by simp [aC] at h
 | _+1,_::_,_,[],h=>by simp [aC] at h
theorem Ct {κ:aP} {w:aB} {p:Pl} {get:Nat->aj}:∀{cs:aa CT} {j:Nat} {as:aa A} {cs':aa CT} {as':aa A},aC κ w cs p j get as ->
  aC κ w cs' p (j+cs.length) get as'->aC κ w (cs++cs') p j get (as++as')
 | [],j,[],_,_,_,h'=>by simpa using h'
 | c::cs,j,a::as,cs',as',h,h'=>by
  simp only [aC,ny] at h ⊢;exact ⟨h.1,Ct h.2 (by simpa [Nat.add_comm,RP,kN] using h')⟩
 | [],_,_::_,_,_,h,_=>by simp [aC] at h
 | _::_,_,[],_,_,h,_=>by simp [aC] at h
theorem gW {κ:aP} {w:aB} {p:Pl} {get:Nat->aj}:∀{cs:aa CT} {j:Nat} {as:aa A} {k:Nat} {c:CT} {a:A},aC κ w cs p j get as ->
  cs[k]?=some c->as[k]?=some a->RC κ w c (p.at (j+k)) (get (j+k)) a
 | c::cs,j,a::as,0,c',a',h,hc,ha=>by
  simp only [aC] at h;simp at hc ha;subst hc;subst ha;exact h.1
 | c::cs,j,a::as,k+1,c',a',h,hc,ha=>by
  simp only [aC] at h;have:=gW (k:=k) h.2 (by simpa using hc) (by simpa using ha);simpa [Nat.add_comm,RP,kN] using this
 | [],_,_,_,_,_,_,hc,_=>by simp at hc
 | _::_,_,[],_,_,_,_,_,ha=>by simp at ha
theorem lY {κ:aP} {w:aB} {p:Pl} {get:Nat->aj}:∀{cs:aa CT} {j:Nat} {as:aa A},as.length=cs.length ->
  (∀k c a,cs[k]?=some c->as[k]?=some a->RC κ w c (p.at (j+k)) (get (j+k)) a)->aC κ w cs p j get as
 | [],_,[],_,_=>by simp [aC]
 | c::cs,j,a::as,hl,h=>by
  simp only [aC];refine ⟨by simpa using h 0 c a rfl rfl,lY (by simpa using hl) fun k c' a' hc ha => ?_⟩;have:=h (k+1) c' a' (by simpa using hc) (by simpa using ha);simpa [Nat.add_comm,RP,kN] using this
 | [],_,_::_,hl,_=>by simp at hl
 | _::_,_,[],hl,_=>by simp at hl
theorem qD {κ:aP} {w:aB} {p:Pl} {get:Nat->aj} {e:aa CT}:∀{j:Nat} {xs:aa (aa A)} {i:Nat} {x:aa A},dC κ w e p j get xs ->
  xs[i]?=some x->aC κ w e p (j+i*e.length) get x
 | _,x::xs,0,x',h,hx=>by
  simp only [dC] at h;simp at hx;subst hx;simpa using h.1
 | j,x::xs,i+1,x',h,hx=>by
  simp only [dC] at h;have:=qD (i:=i) h.2 (by simpa using hx);rw [eu,AL];rw [show j+(i*e.length+e.length)=j+e.length+i*e.length from by omega];exact this
 | _,[],_,_,_,hx=>by simp at hx
theorem wO {κ:aP} {w:aB} {p:Pl} {get:Nat->aj} {e:aa CT}:∀{j:Nat} {xs:aa (aa A)},
  (∀i x,xs[i]?=some x->aC κ w e p (j+i*e.length) get x)->dC κ w e p j get xs
 | _,[],_=>by simp [dC]
 | j,x::xs,h=>by
  simp only [dC];refine ⟨by simpa using h 0 x rfl,wO fun i y hy => ?_⟩;have:=h (i+1) y (by simpa using hy);rw [eu,AL] at this;rw [show j+e.length+i*e.length=j+(i*e.length+e.length) from by omega];exact this
theorem aoS {κ:aP} {w:aB} {p:Pl} {get:Nat->aj} {e:aa CT} {xs ys:aa (aa A)} {j:Nat} (h:dC κ w e p j get xs)
  (h':dC κ w e p (j+xs.length*e.length) get ys):dC κ w e p j get (xs++ys):=by
 refine wO fun i x hx => ?_
 rw [List.getElem?_append] at hx;split at hx
 ·exact qD h hx
 ·have:=qD h' hx;rename_i hi;have e1:j+xs.length*e.length+(i-xs.length)*e.length=j+i*e.length:=by
   have:i=xs.length+(i-xs.length):=by omega
   conv=>rhs;rw [this]
   rw [eu];omega
  rw [e1] at this;exact this
theorem RX {κ:aP} {w:aB} {S:aa Nat} {p p':Pl} {get get':Nat->aj} {cs:aa CT} {j j':Nat} {as:aa A} (hl:CT.lives cs=true) (hp:p.1∈S)
  (hs:CT.allSs (fun S0=>∀r,r∈S0->r∈S) cs) (hg:∀i,i<cs.length->get' (j'+i)=get (j+i)) (h:aC κ w cs p j get as):aC κ w (CT.roizes S cs) p' j' get' as:=by
 induction cs generalizing j j' as with
 | nil=>cases as with
  | nil=>simp [CT.roizes,aC]
  | cons=>simp [aC] at h
 | cons c cs ih=>
  cases as with
  | nil=>simp [aC] at h
  | cons a as=>
   simp only [CT.roizes,CT.allSs,CT.lives,aC,aU] at h hs hl ⊢;refine ⟨?_,ih hl.2 hs.2 (fun i hi => ?_) h.2⟩
   ·have:=hg 0 (by simp);simp at this;rw [this];exact aoR (p:=p.at j) hl.1 hp (by simp [Pl.at]) hs.1 h.1
   ·have:=hg (i+1) (by simpa using hi);simpa [Nat.add_comm,RP,kN] using this
theorem fZ {κ κ':aP} {w w':aB} {f:aa Nat->aa Nat} {P:aa Nat->Prop} {p p':Pl} {get get':Nat->aj} {cs:aa CT} {j j':Nat} {as:aa A}
  (bu:∀S,P S->∀b,bn κ w S b->bn κ' w' (f S) b/\Same w w' b) (hs:CT.allSs P cs)
  (ho:∀i,i<cs.length->∀b q,κ b=some (p.1,p.2++(j+i)::q)->κ' b=some (p'.1,p'.2++(j'+i)::q)/\Same w w' b)
  (hg:∀i,i<cs.length->get' (j'+i)=get (j+i)) (h:aC κ w cs p j get as):aC κ' w' (CT.mapSs f cs) p' j' get' as:=by
 induction cs generalizing j j' as with
 | nil=>cases as with
  | nil=>simp [CT.mapSs,aC]
  | cons=>simp [aC] at h
 | cons c cs ih=>
  cases as with
  | nil=>simp [aC] at h
  | cons a as=>
   simp only [CT.mapSs,CT.allSs,aC] at h hs ⊢;refine ⟨?_,ih hs.2 (fun i hi b q hb => ?_) (fun i hi => ?_) h.2⟩
   ·have:=hg 0 (by simp);simp at this;rw [this];refine Ji bu hs.1 (fun b q hb => ?_) h.1;have:=ho 0 (by simp) b q (by simpa [Pl.at] using hb);simpa [Pl.at] using this
   ·have:=ho (i+1) (by simpa using hi) b q (by rw [show j+(i+1)=j+1+i from by omega];exact hb);rw [show j'+1+i=j'+(i+1) from by omega];exact this
   ·have:=hg (i+1) (by simpa using hi);rw [show j'+1+i=j'+(i+1) from by omega,show j+1+i=j+(i+1) from by omega];exact this
abbrev Sk:=List (Nat × Nat)
def b_:aa A->Sk->aa Nat->ah (aa A)
 | as,[],[]=>some as
 | as,(c,_)::sk,i::is=>match as[c]? with
  | some (.s xs)=>match xs[i]? with
   | some x=>b_ x sk is
   | none=>none
  | _=>none
 | _,_,_=>none
def lH:aa A->Sk->aa Nat->aa A->aa A
 | _,[],_,x=>x
 | as,(c,_)::sk,i::is,x=>match as[c]? with
  | some (.s xs)=>match xs[i]? with
   | some y=>as.set c (.s (xs.set i (lH y sk is x)))
   | none=>as
  | _=>as
 | as,_,_,_=>as
def iC (own:Bool):aa CT->Sk->ah (aa CT)
 | cs,[]=>some cs
 | cs,(c,n)::sk=>match cs[c]? with
  | some (.sl (.own _) e)=>if e.length=n then iC own e sk else none
  | some (.sl (.ro _) e)=>if e.length=n/\own=false then iC own e sk else none
  | _=>none
def wk (w:aB):(Nat->aj)->ah (Nat × Nat)->Sk->aa Nat->ah (Nat × Nat)
 | _,bo,[],[]=>bo
 | get,_,(c,n)::sk,i::is=>match get c with
  | .slice (some ⟨b,o,none⟩) len _=>if i<len then wk w (fun k=>cellD w b (o+i*n+k)) (some (b,o+i*n)) sk is else none
  | _=>none
 | _,_,_,_=>none
def bZ (p:aa Nat) (j:Nat):Sk->aa Nat->aa Nat × Nat
 | (c,n)::sk,i::is=>bZ (p++[j+c]) (i*n) sk is
 | _,_=>(p,j)
theorem wP:∀(sk:Sk) (is p:aa Nat) (j:Nat),p <+: (bZ p j sk is).1
 | [],_,p,j=>by simp [bZ]
 | (c,n)::sk,[],p,j=>by simp [bZ]
 | (c,n)::sk,i::is,p,j=>by
  simp only [bZ];exact List.IsPrefix.trans (List.prefix_append p [j+c]) (wP sk is _ _)
theorem Dj {κ:aP} {w:aB} {r:Nat}:∀{sk:Sk} {is:aa Nat} {cs:aa CT} {p:aa Nat} {j:Nat} {get:Nat->aj} {as x:aa A} {e:aa CT} {bo:ah (Nat × Nat)},
  sk≠[]->aC κ w cs (r,p) j get as->iC true cs sk=some e->b_ as sk is=some x ->
  ∃b o,wk w (fun k=>get (j+k)) bo sk is=some (b,o+(bZ p j sk is).2)/\κ b=some (r,(bZ p j sk is).1)/\Wrb w b (o+(bZ p j sk is).2) (o+(bZ p j sk is).2+e.length) /\
   aC κ w e (r,(bZ p j sk is).1) (bZ p j sk is).2 (fun k=>cellD w b (o+k)) x
 | [],_,_,_,_,_,_,_,_,_,h,_,_,_=>absurd rfl h
 | (c,n)::sk,[],_,_,_,_,_,_,_,_,_,_,_,hl=>by simp [b_] at hl
 | (c,n)::sk,i::is,cs,p,j,get,as,x,e,bo,_,h,ht,hl=>by
  simp only [b_] at hl;split at hl;case h_2=>simp at hl
  case h_1 xs ha=>
  split at hl;case h_2=>simp at hl
  case h_1 y hy=>
  simp only [iC] at ht;split at ht;case h_3=>simp at ht
  case h_2=>simp at ht
  case h_1 k0 e0 hc=>
  split at ht;case isFalse=>simp at ht
  case isTrue hn=>
  have hi:i<xs.length:=(bf hy).1;have h1:=gW h hc ha;simp only [RC] at h1;obtain ⟨ao,cap,hx,df,tX⟩:=h1;rcases tX with ⟨_,rfl⟩|⟨b,o,rfl,wF,hb,hw,he⟩
  ·omega
  ·have cZ:=qD he hy;rw [hn] at cZ hw;simp only [dG] at cZ;simp only [wk,hx,if_pos hi,bZ];cases sk with
   | nil=>
    simp only [iC,aO] at ht;subst ht;cases is with
    | cons=>simp [b_] at hl
    | nil=>
     simp only [b_,aO] at hl;subst hl;refine ⟨b,o,by simp [wk,bZ],by simpa [bZ,Pl.at] using hb,?_,?_⟩
     ·simp only [bZ,hn];refine hw.sub (by omega) ?_;have:=jK n (show i+1<=cap by omega);rw [eu] at this;omega
     ·simpa [bZ,Pl.at] using cZ
   | cons s sk=>
    have uX:aC κ w e0 (r,p++[j+c]) (i*n) (fun k=>cellD w b (o+k)) y:=by simpa [Pl.at] using cZ
    obtain ⟨b',o',Rs,rest⟩:=Dj (sk:=s::sk) (bo:=some (b,o+i*n)) (by simp) uX ht hl;refine ⟨b',o',?_,rest⟩;rw [<-Rs];congr 1;funext k;rw [kN]
theorem arX {κ:aP} {w:aB} {r:Nat}:∀{sk:Sk} {is:aa Nat} {cs:aa CT} {p:aa Nat} {j:Nat} {get:Nat->aj} {as x:aa A} {e:aa CT} {bo:ah (Nat × Nat)},
  sk≠[]->aC κ w cs (r,p) j get as->iC false cs sk=some e->b_ as sk is=some x ->
  ∃b o,wk w (fun k=>get (j+k)) bo sk is=some (b,o+(bZ p j sk is).2)/\Rdb w b (o+(bZ p j sk is).2) (o+(bZ p j sk is).2+e.length) /\
   aC κ w e (r,(bZ p j sk is).1) (bZ p j sk is).2 (fun k=>cellD w b (o+k)) x
 | [],_,_,_,_,_,_,_,_,_,h,_,_,_=>absurd rfl h
 | (c,n)::sk,[],_,_,_,_,_,_,_,_,_,_,_,hl=>by simp [b_] at hl
 | (c,n)::sk,i::is,cs,p,j,get,as,x,e,bo,_,h,ht,hl=>by
  simp only [b_] at hl
  split at hl
  case h_2=>simp at hl
  case h_1 xs ha=>
  split at hl
  case h_2=>simp at hl
  case h_1 y hy=>
  have hi:i<xs.length:=(bf hy).1
  obtain ⟨m,e0,b,o,cap,hc,hn,nH,hx,hr,he⟩:∃m e0 b o cap,cs[c]?=some (.sl m e0)/\e0.length=n/\iC false e0 sk=some e/\get (j+c) = .slice (some ⟨b,o,none⟩) xs.length cap /\
    Rdb w b o (o+xs.length*n)/\dC κ w e0 (r,p++[j+c]) 0 (fun k=>cellD w b (o+k)) xs:=by
   simp only [iC] at ht;split at ht;case h_3=>simp at ht
   case h_1 k0 e0 hc=>
    split at ht;case isFalse=>simp at ht
    case isTrue hn=>
    have h1:=gW h hc ha;simp only [RC] at h1;obtain ⟨ao,cap,hx,df,tX⟩:=h1;rcases tX with ⟨_,rfl⟩|⟨b,o,rfl,wF,hb,hw,he⟩
    ·omega
    ·have:=jK n df;exact ⟨_,e0,b,o,cap,hc,hn,ht,hx,by rw [hn] at hw;exact hw.rdb.sub (eY _) (by omega),by simpa [Pl.at] using he⟩
   case h_2 S e0 hc=>
    split at ht;case isFalse=>simp at ht
    case isTrue hn=>
    have h1:=gW h hc ha;simp only [RC] at h1;obtain ⟨ao,cap,hx,df,tX⟩:=h1;rcases tX with rfl|⟨b,o,rfl,hb,hr,he⟩
    ·simp at hi
    ·exact ⟨_,e0,b,o,cap,hc,hn.1,ht,hx,by rw [hn.1] at hr;exact hr,by simpa [Pl.at] using he⟩
  have cZ:=qD he hy
  rw [hn] at cZ
  simp only [dG] at cZ
  simp only [wk,hx,if_pos hi,bZ]
  cases sk with
  | nil=>
   simp only [iC,aO] at nH
   subst nH
   cases is with
   | cons=>simp [b_] at hl
   | nil=>
    simp only [b_,aO] at hl
    subst hl
    refine ⟨b,o,by simp [wk,bZ],?_,?_⟩
    ·simp only [bZ,hn]
     refine hr.sub (by omega) ?_
     have:=jK n (show i+1<=xs.length by omega)
     rw [eu] at this;omega
    ·simpa [bZ,Pl.at] using cZ
  | cons s sk=>
   obtain ⟨b',o',Rs,rest⟩:=arX (sk:=s::sk) (bo:=some (b,o+i*n)) (by simp) cZ nH hl
   refine ⟨b',o',?_,rest⟩
   rw [<-Rs]
   congr 1
   funext k;rw [kN]
end Go.Fw
namespace Go.Fw
mutual
theorem RY:∀c:CT,c.mapS id=c
 | .d=>by simp [CT.mapS]
 | .sl (.ro S) e=>by simp [CT.mapS,iR e]
 | .sl (.own _) e=>by simp [CT.mapS,iR e]
 | .sl .dead e=>by simp [CT.mapS,iR e]
theorem iR:∀cs:aa CT,CT.mapSs id cs=cs
 | []=>by simp [CT.mapSs]
 | c::cs=>by simp [CT.mapSs,RY c,iR cs]
end
theorem NS {P:aa Nat->Prop}:∀{cs:aa CT} {k:Nat} {c:CT},CT.allSs P cs->cs[k]?=some c->c.allS P
 | c::cs,0,c',h,hc=>by simp at hc;subst hc;simp only [CT.allSs] at h;exact h.1
 | c::cs,k+1,c',h,hc=>by simp only [CT.allSs] at h;exact NS h.2 (by simpa using hc)
 | [],_,_,_,hc=>by simp at hc
theorem vV {κ κ':aP} {w w':aB} {c:CT} {p:Pl} {x:aj} {a:A} (hs:c.allS (fun S=>∀b,bn κ w S b->bn κ' w' S b/\Same w w' b))
  (ho:∀b q,κ b=some (p.1,p.2++q)->κ' b=κ b/\Same w w' b) (h:RC κ w c p x a):RC κ' w' c p x a:=by
 have:=Ji (f:=id) (P:=fun S=>∀b,bn κ w S b->bn κ' w' S b/\Same w w' b) (κ':=κ') (w':=w') (p':=p) (fun S hS b hb=>hS b hb) hs
  (fun b q hb=>⟨by rw [(ho b q hb).1];exact hb,(ho b q hb).2⟩) h
 rwa [RY] at this
theorem Wh {κ κ':aP} {w w':aB} {cs:aa CT} {p:Pl} {j:Nat} {get get':Nat->aj} {as:aa A} (hs:CT.allSs (fun S=>∀b,bn κ w S b->bn κ' w' S b/\Same w w' b) cs)
  (ho:∀i,i<cs.length->∀b q,κ b=some (p.1,p.2++(j+i)::q)->κ' b=κ b/\Same w w' b) (hg:∀i,i<cs.length->get' (j+i)=get (j+i)) (h:aC κ w cs p j get as) :
  aC κ' w' cs p j get' as:=by
 have:=fZ (f:=id) (P:=fun S=>∀b,bn κ w S b->bn κ' w' S b/\Same w w' b) (κ':=κ') (w':=w') (p':=p) (j':=j) (get':=get') (fun S hS b hb=>hS b hb) hs
  (fun i hi b q hb=>⟨by rw [(ho i hi b q hb).1];exact hb,(ho i hi b q hb).2⟩) hg h
 rwa [iR] at this
theorem Kz:∀(sk:Sk) (is p:aa Nat) (j:Nat),sk≠[]->is≠[]->p.length<(bZ p j sk is).1.length
 | [],_,_,_,h,_=>absurd rfl h
 | _::_,[],_,_,_,h=>absurd rfl h
 | (c,n)::sk,i::is,p,j,_,_=>by
  simp only [bZ];have:=(wP sk is (p++[j+c]) (i*n)).length_le;simp at this;omega
theorem nQ {p q:aa Nat} {x y:Nat} (h:p++[x] <+: p++y::q):x=y:=by
 rw [List.prefix_append_right_inj] at h;simpa using h
theorem Jj {κ κ':aP} {w w':aB} {r:Nat}:∀{sk:Sk} {is:aa Nat} {cs:aa CT} {p:aa Nat} {j:Nat} {get:Nat->aj} {as x x':aa A} {e:aa CT}
  {bo:ah (Nat × Nat)} {B O:Nat},
  sk≠[]->aC κ w cs (r,p) j get as->iC true cs sk=some e->b_ as sk is=some x->wk w (fun k=>get (j+k)) bo sk is=some (B,O) ->
  CT.allSs (fun S=>∀b,bn κ w S b->bn κ' w' S b/\Same w w' b) cs ->
  (∀b q,κ b=some (r,q)->b≠B->(∀k,k<e.length->¬(bZ p j sk is).1++[(bZ p j sk is).2+k] <+: q)->κ' b=κ b/\Same w w' b) ->
  (∀{b},b<w.heap.size->b<w'.heap.size)->κ' B=κ B->(∀o y,¬(O<=o/\o<O+e.length)->w.cell? ⟨B,o,none⟩=some y->w'.cell? ⟨B,o,none⟩=some y/\w'.frozen? ⟨B,o,none⟩=w.frozen? ⟨B,o,none⟩) ->
  Wrb w' B O (O+e.length) ->
  (∀o,O=o+(bZ p j sk is).2->aC κ' w' e (r,(bZ p j sk is).1) (bZ p j sk is).2 (fun k=>cellD w' B (o+k)) x') ->
  aC κ' w' cs (r,p) j get (lH as sk is x')
 | [],_,_,_,_,_,_,_,_,_,_,_,_,h,_,_,_,_,_,_,_,_,_,_,_=>absurd rfl h
 | (c,n)::sk,[],_,_,_,_,_,_,_,_,_,_,_,_,_,_,hl,_,_,_,_,_,_,_,_=>by simp [b_] at hl
 | (c,n)::sk,i::is,cs,p,j,get,as,x,x',e,bo,B,O,aZ,h,ht,hl,Rs,hS,h1,dH,hB,lD,hW,h3=>by
  obtain ⟨B',o',aw3,jh,_,_⟩:=Dj (bo:=bo) aZ h ht hl
  rw [Rs] at aw3
  simp only [aO,di] at aw3
  obtain ⟨rfl,hO⟩:=aw3
  have gQ:=wP sk is (p++[j+c]) (i*n)
  simp only [b_] at hl
  split at hl
  case h_2=>simp at hl
  case h_1 xs ha=>
  split at hl
  case h_2=>simp at hl
  case h_1 y hy=>
  simp only [iC] at ht
  split at ht
  case h_3=>simp at ht
  case h_2=>simp at ht
  case h_1 k0 e0 hc=>
  split at ht
  case isFalse=>simp at ht
  case isTrue hn=>
  have hi:i<xs.length:=(bf hy).1
  have ko:c<as.length:=(bf ha).1
  have ug:=gW h hc ha
  simp only [RC] at ug
  obtain ⟨ao,cap,hx,df,tX⟩:=ug
  rcases tX with ⟨_,rfl⟩|⟨b,o,rfl,wF,hb,hw,he⟩
  ·omega
  simp only [lH,ha,hy]
  have bP:=dE h
  refine lY (by simpa using bP) fun k ct a' hk hka => ?_
  by_cases hkc:k=c
  ·subst hkc
   rw [hc] at hk;cases hk
   rw [XU ko] at hka
   cases hka
   have hSc:=NS hS hc
   simp only [CT.allS] at hSc
   have hbp:κ b=some (r,p++[j+k]):=by simpa [Pl.at] using hb
   -- the block of this slice
   have cZ:=qD he hy
   rw [hn] at cZ
   simp only [dG] at cZ
   simp only [bZ] at h1 h3 hO jh
   simp only [wk,hx,if_pos hi] at Rs
   have rG:e0.length=n:=hn
   -- κ' and cells of this block
   have akk:κ' b=κ b/\Wrb w' b o (o+cap*e0.length)/\(b<w.heap.size->b<w'.heap.size):=by
    by_cases oD:b=B
    ·refine ⟨by rw [oD];exact hB,fun o1 g1 g2 => ?_,dH⟩;obtain ⟨⟨y1,Rt⟩,hf1⟩:=hw o1 g1 g2;subst oD;by_cases hr:O<=o1/\o1<O+e.length
     ·exact hW o1 hr.1 hr.2
     ·have:=lD o1 y1 hr Rt;exact ⟨⟨y1,this.1⟩,by rw [this.2];exact hf1⟩
    ·have:=h1 b (p++[j+k]) hbp oD (fun k' _ Kh=>by
      have:=Kh.length_le
      have:=gQ.length_le
      simp at *;omega)
     exact ⟨this.1,this.2.wrb hw,this.2.1⟩
   simp only [RC]
   refine ⟨_,cap,by rw [hx];simp,by simpa using df,.inr ⟨b,o,rfl,akk.2.2 wF,by rw [akk.1];simpa [Pl.at] using hbp,akk.2.1,?_⟩⟩
   -- its rows
   refine wO fun i' x1 hx1 => ?_
   simp only [dG]
   by_cases hii:i'=i
   ·subst hii
    rw [XU hi] at hx1
    cases hx1
    cases sk with
    | nil=>
     simp only [iC,aO] at ht
     subst ht
     cases is with
     | cons=>simp [b_] at hl
     | nil=>
      simp only [wk,aO,di] at Rs
      obtain ⟨rfl,hO'⟩:=Rs
      simp only [lH]
      have:=h3 o (by simp [bZ];omega)
      rw [rG]
      simpa [bZ,Pl.at] using this
    | cons s sk=>
     have pJ:is≠[]:=by rintro rfl;cases s;simp [b_] at hl
     have uX:aC κ w e0 (r,p++[j+k]) (i'*n) (fun k=>cellD w b (o+k)) y:=by simpa [Pl.at] using cZ
     have agH:=Kz (s::sk) is (p++[j+k]) (i'*n) (by simp) pJ
     have oD:b≠B:=by
      rintro rfl
      rw [hbp] at jh
      simp only [aO,di,true_and] at jh
      rw [<-jh] at agH;omega
     have fO:Same w w' b:=(h1 b (p++[j+k]) hbp oD (fun k' _ Kh=>by
      have:=Kh.length_le
      simp at this agH;omega)).2
     have XK:=Jj (κ':=κ') (w':=w') (bo:=some (b,o+i'*n)) (B:=B) (O:=O) (by simp) uX ht hl
      (by rw [<-Rs];congr 1;funext k;rw [kN]) hSc h1 dH hB lD hW h3
     rw [rG]
     refine mO (fun i1 g1 g2 => ?_) (by simpa [Pl.at] using XK)
     refine fO.cD hw.rdb (by omega) ?_
     have:=jK n (show i'+1<=cap by omega)
     rw [eu] at this;rw [rG] at g2 ⊢;omega
   ·have aCh:xs[i']?=some x1:=by rw [List.getElem?_set_ne (fun h=>hii h.symm)] at hx1;exact hx1
    have jB:i'<xs.length:=(bf aCh).1
    have agI:=qD he aCh
    simp only [dG] at agI
    refine Wh hSc (fun k' om b' q cO => ?_) (fun k' om => ?_) agI
    ·simp only [Pl.at] at cO
     refine h1 b' _ cO ?_ ?_
     ·rintro rfl
      rw [cO] at jh
      simp only [aO,di,true_and] at jh
      have Hm:=gQ
      rw [<-jh] at Hm
      cases sk with
      | nil=>simp [bZ] at jh
      | cons s sk=>
       cases is with
       | nil=>cases s;simp [b_] at hl
       | cons i2 is=>
        obtain ⟨c2,n2⟩:=s
        simp only [bZ] at jh
        have hq:=wP sk is ((p++[j+k])++[i*n+c2]) (i2*n2)
        rw [<-jh,lW,lW,List.prefix_append_right_inj] at hq
        simp at hq
        have hc2:c2<n:=by
         simp only [b_] at hl
         split at hl
         case h_2=>simp at hl
         case h_1 xs2 ha2=>
         have:=(bf ha2).1
         have:=dE cZ
         omega
        rw [rG] at om hq
        have hq1:i'*n+k'=i*n+c2:=by omega
        rcases Nat.lt_or_gt_of_ne hii with bU|NH
        ·have:=jK n (show i'+1<=i by omega);rw [eu] at this;omega
        ·have:=jK n (show i+1<=i' by omega);rw [eu] at this;omega
     ·intro k1 hk1 Kh
      cases sk with
      | nil=>
       simp only [iC,aO] at ht
       subst ht
       simp only [bZ] at Kh
       have:i*n+k1=i'*n+k':=by
        rw [rG] at Kh
        exact nQ Kh
       rw [rG] at om hk1
       rcases Nat.lt_or_gt_of_ne hii with bU|NH
       ·have:=jK n (show i'+1<=i by omega);rw [eu] at this;omega
       ·have:=jK n (show i+1<=i' by omega);rw [eu] at this;omega
      | cons s sk=>
       cases is with
       | nil=>cases s;simp [b_] at hl
       | cons i2 is=>
        obtain ⟨c2,n2⟩:=s
        simp only [bZ] at Kh
        have hq:=wP sk is ((p++[j+k])++[i*n+c2]) (i2*n2)
        have hq2:=(hq.trans (List.prefix_append _ _)).trans Kh
        have hq1:=nQ hq2
        have hc2:c2<n:=by
         simp only [b_] at hl
         split at hl
         case h_2=>simp at hl
         case h_1 xs2 ha2=>
         have:=(bf ha2).1
         have:=dE cZ
         omega
        rw [rG] at om hq1
        rcases Nat.lt_or_gt_of_ne hii with bU|NH
        ·have:=jK n (show i'+1<=i by omega);rw [eu] at this;omega
        ·have:=jK n (show i+1<=i' by omega);rw [eu] at this;omega
    ·-- the cells of the other rows
     have bq:o+(i'*e0.length+k')<o+cap*e0.length:=by
      have:=jK e0.length (show i'+1<=cap by omega)
      rw [eu] at this;omega
     obtain ⟨⟨y1,Rt⟩,_⟩:=hw (o+(i'*e0.length+k')) (by omega) bq
     by_cases oD:b=B
     ·subst oD
      have oF:sk=[]:=by
       cases sk with
       | nil=>rfl
       | cons s sk=>
        exfalso
        have pJ:is≠[]:=by rintro rfl;cases s;simp [b_] at hl
        have agH:=Kz (s::sk) is (p++[j+k]) (i*n) (by simp) pJ
        rw [hbp] at jh
        simp only [aO,di,true_and] at jh
        rw [<-jh] at agH;omega
      subst oF
      cases is with
      | cons=>simp [b_] at hl
      | nil=>
       simp only [wk,aO,di] at Rs
       simp only [iC,aO] at ht
       subst ht
       have pg:¬(O<=o+(i'*e0.length+k')/\o+(i'*e0.length+k')<O+e0.length):=by
        rw [<-Rs.2,rG] at *
        rcases Nat.lt_or_gt_of_ne hii with bU|NH
        ·have:=jK n (show i'+1<=i by omega);rw [eu] at this;omega
        ·have:=jK n (show i+1<=i' by omega);rw [eu] at this;omega
       have:=(lD _ y1 pg Rt).1
       simp [cellD,this,Rt]
     ·have fO:Same w w' b:=(h1 b (p++[j+k]) hbp oD (fun k' _ Kh=>by
       have:=Kh.length_le
       have:=gQ.length_le
       simp at *;omega)).2
      simp [cellD,(fO.2 _ y1 Rt).1,Rt]
  ·rw [List.getElem?_set_ne (fun h=>hkc h.symm)] at hka
   have mh:=gW h hk hka
   refine vV (NS hS hk) (fun b' q cO => ?_) mh
   simp only [Pl.at,lW,Ko] at cO
   simp only [bZ] at h1 jh
   refine h1 b' _ cO ?_ ?_
   ·rintro rfl
    rw [cO] at jh
    simp only [aO,di,true_and] at jh
    rw [<-jh] at gQ
    have:=nQ gQ
    omega
   ·intro k1 _ Kh
    have:=nQ ((gQ.trans (List.prefix_append _ _)).trans Kh)
    omega
end Go.Fw
namespace Go.Fw
inductive AV where
 | v (as:List A) (is:List Nat)
 | p (is:List Nat)
 | n
inductive TT where
 | dead
 | val (ag:Bool) (cs:List CT)
 | alias (ag:Bool) (cs:List CT) (r:Nat) (sk:Sk) (off:Nat) (S:List Nat)
 | box (cs:List CT)
 | ptr (r:Nat) (sk:Sk) (off:Nat) (S:List Nat)
 | tup (ws:List (Bool × Nat)) (cs:List CT)
def cellsOf:Bool->aj->ah (aa aj)
 | true,.agg vs=>some vs.toList
 | true,_=>none
 | false,.agg _=>none
 | false,.tuple _=>none
 | false,x=>some [x]
def uO:aa (Bool × Nat)->aa aj->ah (aa aj)
 | [],[]=>some []
 | (g,n)::ws,x::xs=>match cellsOf g x,uO ws xs with
  | some a,some b=>if a.length=n then some (a++b) else none
  | _,_=>none
 | _,_=>none
def rg (w:aB) (tag:TT) (x:aj) (k:Nat):aj:=
 match tag,x with
 | .val ag _,x=>((cellsOf ag x).getD []).getD k undef
 | .box _,.pointer (some a)=>cellD w a.block k
 | _,_=>undef
def rb (tag:TT) (x:aj):ah Nat:=
 match tag,x with
 | .box _,.pointer (some a)=>some a.block
 | _,_=>none
def fJ (w:aB) (g:Nat->aj) (sk:Sk) (is:aa Nat):ah (Nat->aj):=
 match sk,is with
 | [],[]=>some g
 | [],_::_=>none
 | s::sk,is=>(wk w g none (s::sk) is).map fun bo=>fun k=>cellD w bo.1 (bo.2+k)
def iF (w:aB) (g:Nat->aj) (bo:ah Nat) (sk:Sk) (is:aa Nat):ah (Nat × Nat):=
 wk w g (bo.map fun b=>(b,0)) sk is
def PO (κ:aP) (w:aB) (S:aa Nat):(Nat->aj)->Sk->aa Nat->Prop
 | get,(c,n)::sk,i::is=>match get c with
  | .slice (some a) _ _=>bn κ w S a.block/\PO κ w S (fun k=>cellD w a.block (a.off+i*n+k)) sk is
  | _=>True
 | _,_,_=>True
def Agr (g g':Nat->aj):Prop:=∀k,g k≠undef->g' k=g k
theorem avQ {w:aB} {b o:Nat} (h:cellD w b o≠undef):∃x,w.cell? ⟨b,o,none⟩=some x/\cellD w b o=x:=by
 unfold cellD at h ⊢;cases hc:w.cell? ⟨b,o,none⟩ with
 | none=>simp [hc] at h
 | some x=>exact ⟨x,rfl,rfl⟩
theorem Same.agr {w w':aB} {b:Nat} (h:Same w w' b) (f:Nat->Nat):Agr (fun k=>cellD w b (f k)) (fun k=>cellD w' b (f k)):=by
 intro k hk;obtain ⟨x,hx,_⟩:=avQ hk;simp [cellD,hx,(h.2 _ x hx).1]
theorem yX {κ κ':aP} {w w':aB} {S:aa Nat} (bu:∀b,bn κ w S b->bn κ' w' S b/\Same w w' b) :
  ∀{sk:Sk} {is:aa Nat} {g g':Nat->aj} {bo:ah (Nat × Nat)} {BO:Nat × Nat},Agr g g'->PO κ w S g sk is->wk w g bo sk is=some BO ->
  wk w' g' bo sk is=some BO/\PO κ' w' S g' sk is
 | [],[],_,_,_,_,_,_,h=>by simp only [wk,PO] at h ⊢;exact ⟨h,trivial⟩
 | [],_::_,_,_,_,_,_,_,h=>by simp [wk] at h
 | _::_,[],_,_,_,_,_,_,h=>by simp [wk] at h
 | (c,n)::sk,i::is,g,g',bo,BO,hg,hp,h=>by
  simp only [wk] at h;split at h;case h_2=>simp at h
  case h_1 b o len cap hx=>
  split at h;case isFalse=>simp at h
  case isTrue hi=>
  have Cj:g' c = .slice (some ⟨b,o,none⟩) len cap:=by rw [hg c (by rw [hx];simp [undef]),hx]
  simp only [PO,hx] at hp;obtain ⟨cO,fO⟩:=bu b hp.1;have XK:=yX bu (g':=fun k=>cellD w' b (o+i*n+k)) (fO.agr fun k=>o+i*n+k) hp.2 h;simp only [wk,PO,Cj,if_pos hi];exact ⟨XK.1,cO,XK.2⟩
theorem amo {κ:aP} {w:aB} {S:aa Nat}:∀{sk:Sk} {is:aa Nat} {g:Nat->aj} {bo:ah (Nat × Nat)} {B O:Nat},sk≠[]->PO κ w S g sk is->wk w g bo sk is=some (B,O)->bn κ w S B
 | [],_,_,_,_,_,h,_,_=>absurd rfl h
 | _::_,[],_,_,_,_,_,_,h=>by simp [wk] at h
 | (c,n)::sk,i::is,g,bo,B,O,_,hp,h=>by
  simp only [wk] at h;split at h;case h_2=>simp at h
  case h_1 b o len cap hx=>
  split at h;case isFalse=>simp at h
  case isTrue hi=>
  simp only [PO,hx] at hp;cases sk with
  | nil=>
   cases is with
   | nil=>simp only [wk,aO,di] at h;rw [<-h.1];exact hp.1
   | cons=>simp [wk] at h
  | cons s sk=>exact amo (by simp) hp.2 h
mutual
def CT.men (M:aa Nat):CT->Bool
 | .d=>false
 | .sl (.ro S) e=>S.any (M.contains ·) || CT.mens M e
 | .sl _ e=>CT.mens M e
def CT.mens (M:aa Nat):aa CT->Bool
 | []=>false
 | c::cs=>c.men M || CT.mens M cs
end
def oJ (M:aa Nat) (c:CT):CT:=
 if c.men M then match c with
  | .sl _ e=>.sl .dead e
  | .d=>.d
 else c
def meets (S M:aa Nat):Bool:=S.any (M.contains ·)
def TT.kill (mods M:aa Nat):TT->TT
 | .dead=>.dead
 | .val ag cs=>.val ag (cs.map (oJ M))
 | .box cs=>.box (cs.map (oJ M))
 | .tup ws cs=>.tup ws (cs.map (oJ M))
 | .alias ag cs r sk off S=>if mods.contains r || meets S M || CT.mens M cs then .dead else .alias ag cs r sk off S
 | .ptr r sk off S=>if mods.contains r || meets S M then .dead else .ptr r sk off S
theorem H5 {S M:aa Nat} (h:meets S M=false):∀m,m∈M->m∉S:=by
 intro m hm hs;simp only [meets,RQ] at h;exact h m hs (by simpa using hm)
mutual
theorem yY {M:aa Nat} {P:aa Nat->Prop} (hP:∀S,(∀m,m∈M->m∉S)->P S):∀{c:CT},c.men M=false->c.allS P
 | .d,_=>by simp [CT.allS]
 | .sl (.ro S) e,h=>by
  simp only [CT.men,nL] at h;simp only [CT.allS];exact ⟨hP S (H5 h.1),eU hP h.2⟩
 | .sl (.own _) e,h=>by simp only [CT.men] at h;simp only [CT.allS];exact eU hP h
 | .sl .dead e,h=>by simp only [CT.men] at h;simp only [CT.allS];exact eU hP h
theorem eU {M:aa Nat} {P:aa Nat->Prop} (hP:∀S,(∀m,m∈M->m∉S)->P S):∀{cs:aa CT},CT.mens M cs=false->CT.allSs P cs
 | [],_=>by simp [CT.allSs]
 | c::cs,h=>by
  simp only [CT.mens,nL] at h;simp only [CT.allSs];exact ⟨yY hP h.1,eU hP h.2⟩
end
section stay
variable {κ κ':aP} {w w':aB} {mods M:aa Nat}
theorem KA {p:Pl} {get get':Nat->aj} (bu:∀S,(∀m,m∈M->m∉S)->∀b,bn κ w S b->bn κ' w' S b/\Same w w' b)
  (ho:∀b q,κ b=some (p.1,q)->κ' b=κ b/\Same w w' b) {cs:aa CT} {j:Nat} {as:aa A}
  (hg:∀i,i<cs.length->get' (j+i)=get (j+i)) (h:aC κ w cs p j get as):aC κ' w' (cs.map (oJ M)) p j get' as:=by
 refine lY (by rw [dY];exact dE h) fun k c a hc ha => ?_
 rw [kM] at hc;cases sK:cs[k]? with
 | none=>simp [sK] at hc
 | some c0=>
  simp only [sK,dA,aO] at hc;subst hc;have hk:=(bf sK).1;have h0:=gW h sK ha;unfold oJ;split
  ·cases c0 with
   | d=>rename_i hm;simp [CT.men] at hm
   | sl m e=>simp only [RC]
  ·rename_i hm;rw [hg k hk];refine vV (yY (fun S hS=>bu S hS) (by simpa using hm)) (fun b q hb=>ho b _ hb) h0
end stay
def rT (ac:Nat->Nat->aj) (cs:aa CT) (get:Nat->aj):Prop:=∀k j c e,cs[k]?=some (.sl (.own (some (j,c))) e)->get k=ac j c
theorem ac_ {ac:Nat->Nat->aj} {cs:aa CT} {get get':Nat->aj} {M:aa Nat} (hg:∀i,i<cs.length->get' i=get i) (h:rT ac cs get):rT ac (cs.map (oJ M)) get':=by
 intro k j c e hc;rw [kM] at hc;cases sK:cs[k]? with
 | none=>simp [sK] at hc
 | some c0=>
  simp only [sK,dA,aO] at hc;have hk:=(bf sK).1;rw [hg k hk];refine h k j c e ?_;rw [sK];unfold oJ at hc;split at hc
  ·cases c0<;>simp at hc
  ·rw [hc]
def TR (ac:Nat->Nat->aj) (κ:aP) (w:aB) (tg:Nat->TT) (sv:Nat->AV) (tm:Nat->aj) (t:Nat):TT->Prop
 | .dead=>True
 | .val ag cs=>∃as vs,sv t = .v as []/\cellsOf ag (tm t)=some vs/\vs.length=cs.length/\rT ac cs (fun k=>vs.getD k undef)/\aC κ w cs (t,[]) 0 (fun k=>vs.getD k undef) as
 | .alias ag cs r sk off S=>∃as is vs g ra row,sv t = .v as is/\cellsOf ag (tm t)=some vs/\vs.length=cs.length/\CT.lives cs=true/\aC κ w cs (t,[]) 0 (fun k=>vs.getD k undef) as /\
   fJ w (rg w (tg r) (tm r)) sk is=some g/\PO κ w S (rg w (tg r) (tm r)) sk is/\(∀b,rb (tg r) (tm r)=some b->κ b=some (r,[]))/\(sk≠[]->r∈S) /\
   (∀k,k<cs.length->g (off+k)=vs.getD k undef/\vs.getD k undef≠undef)/\sv r = .v ra []/\b_ ra sk is=some row/\as=(row.drop off).take cs.length
 | .box cs=>∃as b,sv t = .v as []/\tm t = .pointer (some ⟨b,0,none⟩)/\b<w.heap.size/\κ b=some (t,[])/\Wrb w b 0 cs.length/\rT ac cs (cellD w b)/\aC κ w cs (t,[]) 0 (cellD w b) as
 | .ptr r sk off S=>∃is B O,sv t = .p is/\iF w (rg w (tg r) (tm r)) (rb (tg r) (tm r)) sk is=some (B,O)/\PO κ w S (rg w (tg r) (tm r)) sk is/\(∀b,rb (tg r) (tm r)=some b->κ b=some (r,[])) /\
   tm t = .pointer (some ⟨B,O+off,none⟩)
 | .tup ws cs=>∃as xs vs,sv t = .v as []/\tm t = .tuple xs/\uO ws xs.toList=some vs/\vs.length=cs.length/\aC κ w cs (t,[]) 0 (fun k=>vs.getD k undef) as
theorem nR (w:aB) (mods M:aa Nat) (tag:TT) (x:aj):rg w (tag.kill mods M) x=rg w tag x/\rb (tag.kill mods M) x=rb tag x:=by
 cases tag with
 | alias ag cs r sk off S=>simp only [TT.kill];split<;>exact ⟨by funext k;simp [rg],by simp [rb]⟩
 | ptr r sk off S=>simp only [TT.kill];split<;>exact ⟨by funext k;simp [rg],by simp [rb]⟩
 | _=>cases x with
  | pointer a=>cases a<;>exact ⟨rfl,rfl⟩
  | _=>exact ⟨rfl,rfl⟩
theorem KC {M:aa Nat}:∀{cs:aa CT},CT.mens M cs=false->cs.map (oJ M)=cs
 | [],_=>rfl
 | c::cs,h=>by
  simp only [CT.mens,nL] at h;simp [oJ,h.1,KC h.2]
theorem arY {w w':aB} {tag:TT} {x:aj} (h:∀b,rb tag x=some b->Same w w' b):Agr (rg w tag x) (rg w' tag x):=by
 intro k hk;cases tag with
 | box cs=>
  cases x with
  | pointer a=>
   cases a with
   | none=>rfl
   | some a=>
    have:=(h a.block rfl).agr (fun k=>k);exact this k (by simpa [rg] using hk)
  | _=>rfl
 | _=>rfl
section stay
variable {κ κ':aP} {w w':aB} {mods M:aa Nat} {tg tg':Nat->TT} {sv sv':Nat->AV} {tm tm':Nat->aj} {ac:Nat->Nat->aj}
theorem azb (bu:∀S,(∀m,m∈M->m∉S)->∀b,bn κ w S b->bn κ' w' S b/\Same w w' b)
  (ho:∀b r q,r∉mods->κ b=some (r,q)->κ' b=κ b/\Same w w' b)
  (sM:∀r,r∉mods->∀x,rg w' (tg' r) x=rg w' (tg r) x/\rb (tg' r) x=rb (tg r) x) (jF:∀r,r∉mods->sv' r=sv r) (qp:∀r,r∉mods->tm' r=tm r)
  {t:Nat} (ht:t∉mods) (h:TR ac κ w tg sv tm t (tg t)):TR ac κ' w' tg' sv' tm' t ((tg t).kill mods M):=by
 have akl:=jF t ht;have akm:=qp t ht;cases hT:tg t with
 | dead=>simp [TT.kill,TR]
 | val ag cs=>
  rw [hT] at h;simp only [TT.kill,TR,akl,akm] at h ⊢;obtain ⟨as,vs,h1,h2,h3,hp,h4⟩:=h;exact ⟨as,vs,h1,h2,by simpa using h3,ac_ (fun _ _=>rfl) hp,KA bu (fun b q hb=>ho b t q ht hb) (fun _ _=>rfl) h4⟩
 | tup ws cs=>
  rw [hT] at h;simp only [TT.kill,TR,akl,akm] at h ⊢;obtain ⟨as,xs,vs,h1,h2,h3,h4,h5⟩:=h;exact ⟨as,xs,vs,h1,h2,h3,by simpa using h4,KA bu (fun b q hb=>ho b t q ht hb) (fun _ _=>rfl) h5⟩
 | box cs=>
  rw [hT] at h;simp only [TT.kill,TR,akl,akm] at h ⊢;obtain ⟨as,b,h1,h2,hb,h3,h4,hp,h5⟩:=h;obtain ⟨hk,hs⟩:=ho b t [] ht h3;have hc:∀i,i<cs.length->cellD w' b i=cellD w b i:=fun i hi=>hs.cD h4.rdb (wN _) hi
  exact ⟨as,b,h1,h2,hs.1 hb,by rw [hk];exact h3,by rw [dY];exact hs.wrb h4,ac_ hc hp,KA bu (fun b q hb=>ho b t q ht hb) (fun i hi=>by simpa using hc i hi) h5⟩
 | alias ag cs r sk off S=>
  rw [hT] at h;simp only [TT.kill];split
  ·simp [TR]
  ·rename_i hk;simp only [iE,not_or,Bool.not_eq_true] at hk;obtain ⟨⟨hr,hS⟩,hm⟩:=hk;have jC:r∉mods:=by simpa using hr
   have arx:=bu S (H5 hS);simp only [TR,akl,akm,qp r jC,jF r jC,(sM r jC (tm r)).2,show rg w' (tg' r) (tm r)=rg w' (tg r) (tm r) from (sM r jC (tm r)).1] at h ⊢;obtain ⟨as,is,vs,g,ra,row,h1,h2,h3,hl,h4,h5,h6,h7,h8,h9,h10,Ho,dQ⟩:=h;have ary:=arY (tag:=tg r) (x:=tm r) (fun b hb=>(ho b r [] jC (h7 b hb)).2);have h4':aC κ' w' cs (t,[]) 0 (fun k=>vs.getD k undef) as:=by
    have:=KA (κ':=κ') (w':=w') (M:=M) bu (fun b q hb=>ho b t q ht hb) (fun _ _=>rfl) h4;rwa [KC hm] at this
   cases sk with
   | nil=>
    cases is with
    | cons=>simp [fJ] at h5
    | nil=>
     simp only [fJ,aO] at h5;subst h5;exact ⟨as,[],vs,_,ra,row,h1,h2,h3,hl,h4',rfl,by simp [PO],fun b hb=>by rw [(ho b r [] jC (h7 b hb)).1];exact h7 b hb,h8,
      fun k hk=>⟨by rw [ary _ (by rw [(h9 k hk).1];exact (h9 k hk).2)];exact (h9 k hk).1,(h9 k hk).2⟩,h10,Ho,dQ⟩
   | cons s sk=>
    simp only [fJ,dh] at h5;obtain ⟨BO,h5,rfl⟩:=h5;have hw:=yX arx ary h6 h5;have hB:bn κ w S BO.1:=by
     obtain ⟨B,O⟩:=BO;exact amo (by simp) h6 h5
    have lD:=((arx BO.1 hB).2).agr (fun k=>BO.2+k);refine ⟨as,is,vs,fun k=>cellD w' BO.1 (BO.2+k),ra,row,h1,h2,h3,hl,h4',by simp only [fJ,hw.1,dA],hw.2,fun b hb=>by rw [(ho b r [] jC (h7 b hb)).1];exact h7 b hb,h8,
     fun k hk=>⟨?_,(h9 k hk).2⟩,h10,Ho,dQ⟩
    have:=lD (off+k) (by rw [(h9 k hk).1];exact (h9 k hk).2);simp only at this ⊢;rw [this];exact (h9 k hk).1
 | ptr r sk off S=>
  rw [hT] at h;simp only [TT.kill];split
  ·simp [TR]
  ·rename_i hk;simp only [iE,not_or,Bool.not_eq_true] at hk;obtain ⟨hr,hS⟩:=hk;have jC:r∉mods:=by simpa using hr
   have arx:=bu S (H5 hS);simp only [TR,akl,akm,qp r jC,(sM r jC (tm r)).2,show rg w' (tg' r) (tm r)=rg w' (tg r) (tm r) from (sM r jC (tm r)).1] at h ⊢;obtain ⟨is,B,O,h1,h2,h3,h4,h5⟩:=h;have ary:=arY (tag:=tg r) (x:=tm r) (fun b hb=>(ho b r [] jC (h4 b hb)).2);have:=yX arx ary h3 h2;exact ⟨is,B,O,h1,this.1,this.2,fun b hb=>by rw [(ho b r [] jC (h4 b hb)).1];exact h4 b hb,h5⟩
end stay
end Go.Fw
namespace Go.Fw
structure Fr (κ0:aP) (w0:World) (κ:aP) (w:World):Prop where
 size:w0.heap.size<=w.heap.size
 kept:∀b,b<w0.heap.size->κ0 b=none->κ b=none/\w.heap[b]?=w0.heap[b]?
 os:w.os=w0.os
 out:w.output=w0.output
 tape:w.tape=w0.tape
def FB:Nat:=1000000000
theorem Same.trans {w w1 w2:aB} {b:Nat} (h:Same w w1 b) (h':Same w1 w2 b):Same w w2 b:=
 ⟨fun hb=>h'.1 (h.1 hb),fun o x hx=>⟨(h'.2 o x (h.2 o x hx).1).1,by rw [(h'.2 o x (h.2 o x hx).1).2,(h.2 o x hx).2]⟩⟩
structure R (ac:Nat->Nat->Value) (κ0:aP) (w0:World) (κ:aP) (w:World) (N:Nat) (tg:Nat->TT) (sv:Nat->AV) (tm:Nat->Value):Prop where
 tr:∀t,TR ac κ w tg sv tm t (tg t)
 out:∀t,N<=t->tg t = .dead
 col:∀b,w.heap.size<=b->κ b=none
 fr:Fr κ0 w0 κ w
 fb:∀b q,κ0 b=some (FB,q)->κ b=some (FB,q)/\Same w0 w b
 nle:N<=FB
def upd {α:Type} (f:Nat->α) (d:Nat) (v:α) (t:Nat):α:=if t=d then v else f t
theorem bD {α:Type} (f:Nat->α) (d:Nat) (v:α):upd f d v d=v:=by simp [upd]
theorem upd_ne {α:Type} (f:Nat->α) (d:Nat) (v:α) {t:Nat} (h:t≠d):upd f d v t=f t:=by simp [upd,h]
section
variable {ac:Nat->Nat->aj} {κ0 κ κ':aP} {w0 w w':aB} {N:Nat} {tg tg':Nat->TT} {sv sv':Nat->AV} {tm tm':Nat->aj} {mods M:aa Nat}
theorem ul (h:R ac κ0 w0 κ w N tg sv tm) (qw:FB∉mods)
  (bu:∀S,(∀m,m∈M->m∉S)->∀b,bn κ w S b->bn κ' w' S b/\Same w w' b)
  (ho:∀b r q,r∉mods->κ b=some (r,q)->κ' b=κ b/\Same w w' b)
  (sM:∀r,r∉mods->tg' r=(tg r).kill mods M\/(∀x,rg w' (tg' r) x=rg w' (tg r) x/\rb (tg' r) x=rb (tg r) x)/\TR ac κ' w' tg' sv' tm' r (tg' r))
  (jF:∀r,r∉mods->sv' r=sv r) (qp:∀r,r∉mods->tm' r=tm r)
  (hm:∀t,t∈mods->TR ac κ' w' tg' sv' tm' t (tg' t)) (pg:∀t,N<=t->tg' t = .dead)
  (ku:∀b,w'.heap.size<=b->κ' b=none) (hfr:Fr κ0 w0 κ' w'):R ac κ0 w0 κ' w' N tg' sv' tm':=by
 refine ⟨fun t => ?_,pg,ku,hfr,fun b q hb => ?_,h.nle⟩;case refine_2=>
  obtain ⟨h1,h2⟩:=h.fb b q hb
  obtain ⟨h3,h4⟩:=ho b FB q qw h1
  exact ⟨by rw [h3];exact h1,h2.trans h4⟩
 by_cases ht:t∈mods
 ·exact hm t ht
 ·rcases sM t ht with h1|h1
  ·rw [h1];refine azb bu ho (fun r hr x => ?_) jF qp ht (h.tr t);rcases sM r hr with h2|h2
   ·rw [h2];exact nR w' mods M (tg r) x
   ·exact h2.1 x
  ·exact h1.2
end
theorem ada (c:CT):oJ [] c=c:=by
 have h:c.men []=false:=by
  have key:(∀c:CT,c.men []=false)/\∀cs:aa CT,CT.mens [] cs=false:=by
   refine ⟨fun c => ?_,fun cs => ?_⟩
   ·exact men_nil c
   ·exact mens_nil cs
  exact key.1 c
 simp [oJ,h]
where
 men_nil:∀c:CT,c.men []=false
  | .d=>by simp [CT.men]
  | .sl (.ro S) e=>by simp [CT.men,mens_nil e]
  | .sl (.own _) e=>by simp [CT.men,mens_nil e]
  | .sl .dead e=>by simp [CT.men,mens_nil e]
 mens_nil:∀cs:List CT,CT.mens [] cs=false
  | []=>by simp [CT.mens]
  | c::cs=>by simp [CT.mens,men_nil c,mens_nil cs]
def aX (κ:aP) (F:Pl->ah Pl) (nb:ah (Nat × Pl)):aP:=fun b=>
 match nb with
 | some (b',p)=>if b=b' then some p else (κ b).bind F
 | none=>(κ b).bind F
section
variable {ac:Nat->Nat->aj} {κ0 κ:aP} {w0 w w':aB} {N:Nat} {tg tg':Nat->TT} {sv sv':Nat->AV} {tm tm':Nat->aj} {mods M:aa Nat}
structure Grows (w w':World):Prop where
 size:w.heap.size<=w'.heap.size
 old:∀b,b<w.heap.size->w'.heap[b]?=w.heap[b]?
 os:w'.os=w.os
 out:w'.output=w.output
 tape:w'.tape=w.tape
theorem Grows.refl (w:aB):Grows w w:=⟨eY _,fun _ _=>rfl,rfl,rfl,rfl⟩
theorem cell?_none {w:aB} {b o:Nat} (h:w.heap.size<=b):w.cell? ⟨b,o,none⟩=none:=by
 simp [World.cell?,agq h]
theorem Grows.same {w w':aB} (h:Grows w w') (b:Nat):Same w w' b:=by
 refine ⟨fun hb=>pO hb h.size,fun o x hx => ?_⟩;by_cases hb:b<w.heap.size
 ·have:=h.old b hb;simp only [World.cell?,World.frozen?,this] at hx ⊢;exact ⟨hx,trivial⟩
 ·rw [cell?_none (by omega)] at hx;cases hx
theorem Fr.step {w w':aB} {κ κ':aP} {κ0:aP} {w0:aB} (h:Fr κ0 w0 κ w) (hg:Grows w w') (hk:∀b,b<w.heap.size->κ b=none->κ' b=none):Fr κ0 w0 κ' w':=
 ⟨kz h.size hg.size,fun b hb h0=>⟨hk b (pO hb h.size) (h.kept b hb h0).1,by rw [hg.old b (pO hb h.size)];exact (h.kept b hb h0).2⟩,
  by rw [hg.os,h.os],by rw [hg.out,h.out],by rw [hg.tape,h.tape]⟩
theorem abW (h:R ac κ0 w0 κ w N tg sv tm) (qw:FB∉mods) {F:Pl->ah Pl} {nb:ah (Nat × Pl)} (hw:Grows w w')
  (hF:∀r q,r∉mods->F (r,q)=some (r,q)) (hM:∀r q p,F (r,q)=some p->r∉M->p=(r,q))
  (oG:∀b p,nb=some (b,p)->w.heap.size<=b/\b<w'.heap.size)
  (sM:∀r,r∉mods->tg' r=(tg r).kill mods M) (jF:∀r,r∉mods->sv' r=sv r) (qp:∀r,r∉mods->tm' r=tm r)
  (hm:∀t,t∈mods->TR ac (aX κ F nb) w' tg' sv' tm' t (tg' t)) (pg:∀t,N<=t->tg' t = .dead):R ac κ0 w0 (aX κ F nb) w' N tg' sv' tm':=by
 have aZ:∀b,b<w.heap.size->aX κ F nb b=(κ b).bind F:=by
  intro b hb;unfold aX;cases nb with
  | none=>rfl
  | some q=>
   obtain ⟨b',p⟩:=q;have:=oG b' p rfl;simp only;rw [if_neg (by omega)]
 have ku:∀b p,κ b=some p->b<w.heap.size:=fun b p hb=>by
  apply sW;intro df;rw [h.col b df] at hb;cases hb
 refine ul (mods:=mods) (M:=M) h qw (fun S hS b hb=>⟨⟨pO hb.1 hw.size,fun r p hr => ?_⟩,hw.same b⟩) (fun b r q hr hb=>⟨?_,hw.same b⟩) (fun r hr=>.inl (sM r hr)) jF qp hm pg (fun b hb => ?_) ?_
 ·rw [aZ b hb.1] at hr;cases hk:κ b with
  | none=>simp [hk] at hr
  | some p0=>
   obtain ⟨r0,q0⟩:=p0;simp only [hk,ae] at hr;by_cases hrM:r0∈M
   ·exact absurd (hb.2 r0 q0 hk).1 (hS r0 hrM)
   ·have:=hM r0 q0 _ hr hrM;cases this;exact hb.2 _ _ hk
 ·rw [aZ b (ku b _ hb),hb];simp [hF r q hr]
 ·have cO:w.heap.size<=b:=kz hw.size hb;unfold aX;cases nb with
  | none=>simp [h.col b cO]
  | some q=>
   obtain ⟨b',p⟩:=q;have:=oG b' p rfl;simp only;rw [if_neg (by omega)];simp [h.col b cO]
 ·exact h.fr.step hw fun b hb hk=>by rw [aZ b hb,hk];rfl
end
end Go.Fw
namespace Go.Fw
theorem run_pure {α:Type} (a:α) (P:aS) (w:aB):(pure a:Sem α).run P w = .ok a w:=rfl
theorem run_bind {α β:Type} (e:Sem α) (f:α->Sem β) (P:aS):∀w:aB,(e >>= f).run P w=match e.run P w with
  | .ok a w'=>(f a).run P w'
  | .halt h w'=>.halt h w':=by
 show ∀w,(e.bind f).run P w=_;induction e with
 | pure a=>intro w;rfl
 | load m a k ih=>
  intro w;simp only [Sem.bind,Sem.run]
  (repeat' split)<;>simp_all
 | store m a v k ih=>
  intro w;cases v<;>simp only [Sem.bind,Sem.run]<;>((repeat' split)<;>simp_all)
 | new o k ih=>intro w;simp only [Sem.bind,Sem.run];exact ih _ _
 | shape r k ih=>intro w;simp only [Sem.bind,Sem.run];exact ih _ _
 | freeze a n k ih=>intro w;simp only [Sem.bind,Sem.run];exact ih _
 | frozen a k ih=>intro w;simp only [Sem.bind,Sem.run];exact ih _ _
 | getObj r k ih=>
  intro w;simp only [Sem.bind,Sem.run];split<;>simp_all
 | setObj r o k ih=>
  intro w;simp only [Sem.bind,Sem.run];split<;>simp_all
 | choose q k ih=>
  intro w;simp only [Sem.bind,Sem.run];split<;>simp_all
 | sys c k ih=>intro w;simp only [Sem.bind,Sem.run];exact ih _ _
 | program k ih=>intro w;simp only [Sem.bind,Sem.run];exact ih _ _
 | mark m k ih=>intro w;simp only [Sem.bind,Sem.run];exact ih _
 | halt h=>intro w;rfl
theorem aJ {α β:Type} {e:Sem α} {f:α->Sem β} {P:aS} {w w':aB} {a:α} (h:e.run P w = .ok a w'):(e >>= f).run P w=(f a).run P w':=by
 rw [run_bind,h]
theorem run_underlying {P:aS} {t:TypeId} {d:zTd} (h:P.underlying t=some d) (w:aB):(underlying t).run P w = .ok d w:=by
 simp [underlying,program,bind,Sem.bind,Sem.run,h,pure]
theorem run_typeInfo {P:aS} {t:TypeId} {i:TypeInfo} (h:P.info? t=some i) (w:aB):(typeInfo t).run P w = .ok i w:=by
 simp [typeInfo,program,bind,Sem.bind,Sem.run,h,pure]
theorem run_sizeOf {P:aS} {t:TypeId} {i:TypeInfo} (h:P.info? t=some i) (w:aB):(sizeOf t).run P w = .ok i.size w:=by
 unfold sizeOf;rw [aJ (run_typeInfo h w)];rfl
theorem Dw {P:aS} {t:TypeId} {i:TypeInfo} {z:aj} (h:P.info? t=some i) (hz:i.zero=some z) (w:aB):(zeroValue t).run P w = .ok z w:=by
 unfold zeroValue;rw [aJ (run_typeInfo h w)];simp [hz,pure,Sem.run]
def wQ (P:aS) (t:TypeId):ah Bool:=
 match P.underlying t with
 | some (.struct _)=>some true
 | some (.array _ _)=>none
 | some _=>some false
 | none=>none
theorem F4 {P:aS} {t:TypeId} {g:Bool} (h:wQ P t=some g) (w:aB):(isAgg t).run P w = .ok g w:=by
 unfold wQ at h;unfold isAgg;cases hu:P.underlying t with
 | none=>simp [hu] at h
 | some d=>
  rw [aJ (run_underlying hu w)];cases d<;>simp [hu] at h<;>subst h<;>rfl
def fK (w:aB) (cells:Array aj) (t:TypeId):aB:={ w with heap:=w.heap.push (.cells cells t) }
theorem um (w:aB) (cells:Array aj) (t:TypeId):Grows w (fK w cells t):=
 ⟨by simp [fK],fun b hb=>by simp only [fK];rw [Array.getElem?_push_lt hb,We hb],rfl,rfl,rfl⟩
theorem X7 (w:aB) (cells:Array aj) (t:TypeId) (o:Nat):(fK w cells t).cell? ⟨w.heap.size,o,none⟩=cells[o]?:=by
 have:(fK w cells t).heap[w.heap.size]?=some (.cells cells t):=Array.getElem?_push_size;unfold World.cell?;simp only [this];rfl
theorem NT (w:aB) (cells:Array aj) (t:TypeId) (lo hi:Nat) (h:hi<=cells.size):Wrb (fK w cells t) w.heap.size lo hi:=by
 intro o _ h2;refine ⟨⟨cells[o]'(by omega),by rw [X7];simp [show o<cells.size by omega]⟩,?_⟩;have:(fK w cells t).heap[w.heap.size]?=some (.cells cells t):=Array.getElem?_push_size;unfold World.frozen?;simp only [this];simp
theorem H6 (w:aB) (cells:Array aj) (t:TypeId) (o:Nat):cellD (fK w cells t) w.heap.size o=cells.toList.getD o undef:=by
 simp [cellD,X7,dw]
theorem pU {P:aS} (elem:TypeId) (cells:Array aj) (w:aB):(newRow elem cells).run P w = .ok ⟨w.heap.size,0,none⟩ (fK w cells elem):=by
 simp [newRow,newObj,bind,Sem.bind,Sem.run,pure,fK]
theorem azc {P:aS} (elem:TypeId) (v:aj) (w:aB):(Instr.box elem v).run P w = .ok (.pointer (some ⟨w.heap.size,0,none⟩)) (fK w v.cells elem):=by
 unfold Instr.box newVar;rw [aJ (pU elem v.cells w)];rfl
theorem arZ {P:aS} {elem:TypeId} {i:TypeInfo} {z:aj} (h:P.info? elem=some i) (hz:i.zero=some z) (w:aB) :
  (Instr.alloc elem true (.tuple #[])).run P w = .ok (.pointer (some ⟨w.heap.size,0,none⟩)) (fK w z.cells elem):=by
 unfold Instr.alloc;rw [aJ (Dw h hz w)];simp only;unfold newVar;rw [aJ (pU elem z.cells w)];rfl
theorem yZ (b o k:Nat):(Addr.add ⟨b,o,none⟩ k)=⟨b,o+k,none⟩:=by
 unfold Addr.add;split
 ·simp_all
 ·rfl
theorem NU {P:aS} {a:Addr} {x:aj} {w:aB} (h:w.cell? a=some x):(load a).run P w = .ok x w:=by
 simp [load,Sem.run,h]
theorem run_loadCellsFrom {P:aS} {b o:Nat} {w:aB}:∀(n i:Nat) (acc:Array aj),Rdb w b (o+i) (o+i+n) ->
  (loadCellsFrom ⟨b,o,none⟩ i n acc).run P w = .ok (acc++((List.range n).map fun k=>cellD w b (o+i+k)).toArray) w
 | 0,i,acc,_=>by simp [loadCellsFrom,pure,Sem.run]
 | n+1,i,acc,h=>by
  obtain ⟨x,hx⟩:=h (o+i) (eY _) (by omega);unfold loadCellsFrom;rw [yZ,aJ (NU hx),run_loadCellsFrom n (i+1) _ (fun o' h1 h2=>h o' (by omega) (by omega))];congr 1;have:cellD w b (o+i)=x:=by simp [cellD,hx]
  apply Array.ext';simp only [Array.toList_append,Array.toList_push,List.range_succ_eq_map,bz,AJ,qd,this,lW,Ko];congr 2;apply RJ;intro k _;simp only [Function.comp];congr 1;omega
theorem run_loadCells {P:aS} {b o n:Nat} {w:aB} (h:Rdb w b o (o+n)) :
  (loadCells ⟨b,o,none⟩ n).run P w = .ok ((List.range n).map fun k=>cellD w b (o+k)).toArray w:=by
 unfold loadCells;rw [run_loadCellsFrom n 0 #[] (by simpa using h)];simp
theorem X8 {P:aS} {t:TypeId} {i:TypeInfo} {g:Bool} {b o:Nat} {w:aB} (hi:P.info? t=some i) (hg:wQ P t=some g) (h1:g=false->i.size=1)
  (h:Rdb w b o (o+i.size)):∃v,(Instr.loadAt t (.pointer (some ⟨b,o,none⟩))).run P w = .ok v w /\
   (g=true->v = .agg ((List.range i.size).map fun k=>cellD w b (o+k)).toArray)/\(g=false->v=cellD w b o):=by
 unfold Instr.loadAt;have hs:(Instr.sureAddr (.pointer (some ⟨b,o,none⟩))).run P w = .ok ⟨b,o,none⟩ w:=rfl;rw [aJ hs];unfold loadVar;rw [aJ (F4 hg w)];cases g with
 | true=>
  simp only [if_true];rw [aJ (run_sizeOf hi w),aJ (run_loadCells h)];exact ⟨_,rfl,fun _=>rfl,fun h=>by cases h⟩
 | false=>
  obtain ⟨x,hx⟩:=h o (eY _) (by have:=h1 rfl;omega);exact ⟨x,NU hx,(fun h=>by cases h),fun _=>(by simp [cellD,hx])⟩
end Go.Fw
namespace Go.Fw
def rU:aj->Bool
 | .agg _ | .tuple _=>false
 | _=>true
def bG (w:aB) (b o:Nat):aa aj->aB
 | []=>w
 | v::vs=>bG (w.setCell ⟨b,o,none⟩ v) b (o+1) vs
theorem agQ (w:aB) (a:Addr) (v:aj):(w.setCell a v).heap.size=w.heap.size:=by simp [World.setCell]
theorem X9 (w:aB) (a:Addr) (v:aj) (b:Nat) (h:b≠a.block):(w.setCell a v).heap[b]?=w.heap[b]?:=by
 simp [World.setCell,Array.getElem?_modify,h_ h]
theorem agR (w:aB) (b o b' o':Nat) (v:aj) :
  (w.setCell ⟨b,o,none⟩ v).cell? ⟨b',o',none⟩=if b'=b/\o'=o then (w.cell? ⟨b,o,none⟩).map fun _=>v else w.cell? ⟨b',o',none⟩:=by
 unfold World.cell? World.setCell;simp only [Array.getElem?_modify];by_cases hb:b'=b
 ·subst hb;simp only [if_true,true_and];cases hw:w.heap[b']? with
  | none=>simp
  | some x=>
   cases x<;>simp;rename_i c elem fz;rw [abU];by_cases ho:o'=o
   ·subst ho;simp only [if_true];by_cases hs:o'<c.size
    ·simp [hs]
    ·simp [hs]
   ·simp [ho,h_ ho]
 ·simp [hb,h_ hb]
theorem abX (w:aB) (b o b' o':Nat) (v:aj):(w.setCell ⟨b,o,none⟩ v).frozen? ⟨b',o',none⟩=w.frozen? ⟨b',o',none⟩:=by
 unfold World.frozen? World.setCell;simp only [Array.getElem?_modify];by_cases hb:b'=b
 ·subst hb;simp only [if_true];cases hw:w.heap[b']? with
  | none=>simp
  | some x=>cases x<;>simp
 ·simp [h_ hb]
theorem kP:∀(vs:aa aj) (w:aB) (b o:Nat),(bG w b o vs).heap.size=w.heap.size/\(bG w b o vs).os=w.os/\(bG w b o vs).output=w.output /\
  (bG w b o vs).tape=w.tape/\(∀b',b'≠b->(bG w b o vs).heap[b']?=w.heap[b']?)/\∀b' o',(bG w b o vs).frozen? ⟨b',o',none⟩=w.frozen? ⟨b',o',none⟩
 | [],w,b,o=>⟨rfl,rfl,rfl,rfl,fun _ _=>rfl,fun _ _=>rfl⟩
 | v::vs,w,b,o=>by
  obtain ⟨h1,h2,h3,h4,h5,h6⟩:=kP vs (w.setCell ⟨b,o,none⟩ v) b (o+1);refine ⟨by simp only [bG];rw [h1,agQ],by simp only [bG];rw [h2];rfl,by simp only [bG];rw [h3];rfl,by simp only [bG];rw [h4];rfl,fun b' cO => ?_,fun b' o' => ?_⟩
  ·simp only [bG];rw [h5 b' cO,X9 w _ v b' cO]
  ·simp only [bG];rw [h6,abX]
theorem iG:∀(vs:aa aj) (w:aB) (b o b' o':Nat),
  (bG w b o vs).cell? ⟨b',o',none⟩=if b'=b/\o<=o'/\o'<o+vs.length then (w.cell? ⟨b',o',none⟩).map fun _=>vs.getD (o'-o) undef else w.cell? ⟨b',o',none⟩
 | [],w,b,o,b',o'=>by
  simp only [bG,bS,qd];rw [if_neg (by omega)]
 | v::vs,w,b,o,b',o'=>by
  simp only [bG,bI];rw [iG vs,agR];by_cases hb:b'=b
  ·subst hb;by_cases ho:o'=o
   ·subst ho;rw [if_neg (by omega),if_pos (by simp),if_pos (by omega)];simp
   ·by_cases h1:o+1<=o'/\o'<o+1+vs.length
    ·rw [if_pos (by omega),if_neg (by omega),if_pos (by omega)];congr 1;funext _;rw [show o'-o=(o'-(o+1))+1 from by omega];rfl
    ·rw [if_neg (by omega),if_neg (by omega),if_neg (by omega)]
  ·simp [hb]
theorem dF {w:aB} {b o:Nat} {vs:aa aj} {b':Nat} (h:b'≠b):Same w (bG w b o vs) b':=by
 refine ⟨fun hb=>by rw [(kP vs w b o).1];exact hb,fun o' x hx=>⟨?_,(kP vs w b o).2.2.2.2.2 _ _⟩⟩;rw [iG,if_neg (by simp [h])];exact hx
theorem nS {w:aB} {b o:Nat} {vs:aa aj} {b' lo hi:Nat} (h:Wrb w b' lo hi):Wrb (bG w b o vs) b' lo hi:=by
 intro o' h1 h2;obtain ⟨⟨x,hx⟩,hf⟩:=h o' h1 h2;refine ⟨?_,by rw [(kP vs w b o).2.2.2.2.2];exact hf⟩;rw [iG];split
 ·exact ⟨_,by rw [hx];rfl⟩
 ·exact ⟨x,hx⟩
theorem Ac {w:aB} {b o:Nat} {vs:aa aj} (h:Wrb w b o (o+vs.length)) (k:Nat) (hk:k<vs.length):cellD (bG w b o vs) b (o+k)=vs.getD k undef:=by
 obtain ⟨⟨x,hx⟩,_⟩:=h (o+k) (by omega) (by omega);unfold cellD;rw [iG,if_pos ⟨rfl,by omega,by omega⟩,hx,show o+k-o=k from by omega];simp
theorem run_store {P:aS} {b o:Nat} {v x:aj} {w:aB} (h1:rU v=true) (hx:w.cell? ⟨b,o,none⟩=some x) (hf:w.frozen? ⟨b,o,none⟩=false) :
  (store ⟨b,o,none⟩ v).run P w = .ok () (w.setCell ⟨b,o,none⟩ v):=by
 unfold store;cases v<;>simp [rU] at h1<;>simp [Sem.run,hx,hf]
theorem y_ {P:aS} {b o:Nat}:∀(vs:aa aj) (i:Nat) (w:aB),vs.all rU=true->Wrb w b (o+i) (o+i+vs.length) ->
  (storeCells ⟨b,o,none⟩ vs i).run P w = .ok () (bG w b (o+i) vs)
 | [],i,w,_,_=>by simp [storeCells,pure,Sem.run,bG]
 | v::vs,i,w,h1,h=>by
  simp only [Dv,aU] at h1;obtain ⟨⟨x,hx⟩,hf⟩:=h (o+i) (eY _) (by simp);unfold storeCells;rw [yZ,aJ (run_store h1.1 hx hf),y_ vs (i+1) _ h1.2 ?_]
  ·simp [bG,kN]
  ·have:bG w b (o+i) [v]=w.setCell ⟨b,o+i,none⟩ v:=rfl;rw [<-this];exact nS (h.sub (by omega) (by simp;omega))
theorem Ad {P:aS} {t:TypeId} {i:TypeInfo} {b o:Nat} {v:aj} {w:aB} (hi:P.info? t=some i) (hv:v.cells.size=i.size) (h1:v.cells.toList.all rU=true)
  (h:Wrb w b o (o+i.size)):(Instr.storeAt t (.pointer (some ⟨b,o,none⟩)) v).run P w = .ok () (bG w b o v.cells.toList):=by
 unfold Instr.storeAt;have hs:(Instr.sureAddr (.pointer (some ⟨b,o,none⟩))).run P w = .ok ⟨b,o,none⟩ w:=rfl;rw [aJ hs];unfold storeVar;rw [aJ (run_sizeOf hi w)];have aZ:¬(v.cells.size≠i.size):=by simp [hv]
 have:=y_ (P:=P) v.cells.toList 0 w h1 (by simpa [hv] using h) (b:=b) (o:=o);simp only [qd] at this;simp only [if_neg aZ];exact this
theorem akW {P:aS} {s:TypeId} {fs:Array Field} {f:Nat} {fi:Field} {i:TypeInfo} {b o:Nat} {w:aB} (h:P.underlying s=some (.struct fs)) (hf:fs[f]?=some fi)
  (hi:P.info? fi.type=some i) (h0:i.size≠0):(Instr.fieldAt s (.pointer (some ⟨b,o,none⟩)) f).run P w = .ok (.pointer (some ⟨b,o+fi.offset,none⟩)) w:=by
 unfold Instr.fieldAt;rw [aJ (run_underlying h w)];simp only [hf];have hs:(Instr.sureAddr (.pointer (some ⟨b,o,none⟩))).run P w = .ok ⟨b,o,none⟩ w:=rfl;rw [aJ hs];unfold fieldPlace;have h2:((do if (<-sizeOf fi.type)=0 then partAt ⟨b,o,none⟩ fi.offset fi.byteOffset else pure (Addr.add ⟨b,o,none⟩ fi.offset)):Sem Addr).run P w = .ok ⟨b,o+fi.offset,none⟩ w:=by
  rw [aJ (run_sizeOf hi w),if_neg h0,yZ];rfl
 rw [aJ h2];rfl
theorem run_indexAt {P:aS} {t e:TypeId} {i:TypeInfo} {b o len cap:Nat} {k:IntKind} {n:Int} {w:aB} (h:P.underlying t=some (.slice e)) (hi:P.info? e=some i)
  (h0:0<=n) (h1:n<len):(Instr.indexAt t (.slice (some ⟨b,o,none⟩) len cap) (.int k n)).run P w = .ok (.pointer (some ⟨b,o+n.toNat*i.size,none⟩)) w:=by
 unfold Instr.indexAt;have hs:(asIntOf (.int k n)).run P w = .ok (k,n) w:=rfl;rw [aJ hs];simp only;rw [aJ (run_underlying h w)];simp only;rw [aJ (run_pure _ P w),aJ (run_underlying h w)];simp only [h0,h1,and_self,if_true];rw [aJ (run_sizeOf hi w),yZ];rfl
theorem NV {P:aS} {t e:TypeId} {i:TypeInfo} {ao:ah Addr} {len cap:Nat} {lo hi:ah aj} {l h:Nat} {w:aB} (hu:P.underlying t=some (.slice e)) (jB:P.info? e=some i)
  (hlo:(lo=none/\l=0)\/∃k,lo=some (.int k (l:Int))) (hhi:(hi=none/\h=len)\/∃k,hi=some (.int k (h:Int))) (h1:l<=h) (h2:h<=cap) :
  (Instr.sliceAt t (.slice ao len cap) lo hi none).run P w = .ok (.slice (if cap=l then ao else ao.map (·.add (l*i.size))) (h-l) (cap-l)) w:=by
 have hb:∀(x y:Nat) (c:BoundsCode) (k:IntKind),x<=y->(Instr.sliceBound (.int k (x:Int)) y c).run P w = .ok x w:=by
  intro x y c k hxy;unfold Instr.sliceBound;have hs:(asIntOf (.int k (x:Int))).run P w = .ok (k,(x:Int)) w:=rfl;rw [aJ hs];have:(0:Int)<=x/\(x:Int)<=y:=by omega
  simp only [this,and_self,if_true];rfl
 have wF:(Instr.sliceBounds true len cap lo hi none).run P w = .ok (l,h,cap) w:=by
  unfold Instr.sliceBounds;simp only;rw [aJ (run_pure cap P w)];rcases hhi with ⟨rfl,rfl⟩|⟨k,rfl⟩
  ·simp only;rw [aJ (run_pure h P w)];rcases hlo with ⟨rfl,rfl⟩|⟨k,rfl⟩
   ·simp only;rw [aJ (run_pure 0 P w)];rfl
   ·simp only;rw [aJ (hb l h _ k h1)];rfl
  ·simp only;rw [aJ (hb h cap _ k h2)];rcases hlo with ⟨rfl,rfl⟩|⟨k,rfl⟩
   ·simp only;rw [aJ (run_pure 0 P w)];rfl
   ·simp only;rw [aJ (hb l h _ k h1)];rfl
 unfold Instr.sliceAt;rw [aJ (run_underlying hu w)];simp only;unfold Instr.slice;rw [aJ (run_underlying hu w)];simp only;rw [aJ wF];simp only;rw [aJ (run_sizeOf jB w)];rfl
end Go.Fw
namespace Go.Fw
theorem adb (need:Nat):∀(r c B:Nat),c<=B->need+(need+768) / 4<=B->Builtin.growBy need r c<=B
 | 0,c,B,h,_=>h
 | r+1,c,B,h,h2=>by
  unfold Builtin.growBy;split
  ·exact h
  ·exact adb need r _ B (by omega) h2
theorem nextslicecap_le (need cap:Nat) (h:cap<need):Builtin.nextslicecap need cap<=2*need+512:=by
 unfold Builtin.nextslicecap;split
 ·omega
 ·split
  ·omega
  ·exact adb need 4 cap _ (by omega) (by omega)
def kw (w:aB):aB:={ w with drawn:=w.drawn+1 }
theorem akX (w:aB):Grows w (kw w):=⟨eY _,fun _ _=>rfl,rfl,rfl,rfl⟩
theorem Grows.trans {w w1 w2:aB} (h:Grows w w1) (h':Grows w1 w2):Grows w w2:=
 ⟨kz h.size h'.size,fun b hb=>by rw [h'.old b (pO hb h.size),h.old b hb],by rw [h'.os,h.os],by rw [h'.out,h.out],by rw [h'.tape,h.tape]⟩
def behind (w:aB) (m:Nat):ah Addr->aa aj
 | some a=>(List.range m).map fun k=>cellD w a.block (a.off+k)
 | none=>[]
theorem Jk {P:aS} {size n cap:Nat} {ao:ah Addr} {w:aB} (h:n=0\/∃b o,ao=some ⟨b,o,none⟩/\Rdb w b o (o+n*size)) :
  (Builtin.firstCells size n (.slice ao n cap)).run P w = .ok (behind w (n*size) ao).toArray w:=by
 unfold Builtin.firstCells;rcases h with rfl|⟨b,o,rfl,hr⟩
 ·cases ao with
  | none=>rfl
  | some a=>
   simp only [Nat.zero_mul,behind,List.range_zero,bM];rfl
 ·simp only [behind];exact run_loadCells hr
structure NW (P:Program) (t e:TypeId) (i:TypeInfo) (z:Value):Prop where
 slice:P.underlying t=some (.slice e)
 info:P.info? e=some i
 zero:i.zero=some z
 zsize:z.cells.size=i.size
 bytes:i.bytes<=4096
 pos:0<i.size
theorem aoT {P:aS} {t t2 e e2:TypeId} {i:TypeInfo} {z:aj} {ao xo:ah Addr} {len cap n xc:Nat} {ty:TypeId} {w:aB} (hE:NW P t e i z)
  (ht2:P.underlying t2=some (.slice e2)) (bP:len<=cap) (ac6:len+n<=4294967296)
  (hs:(ao=none/\cap=0)\/∃b o,ao=some ⟨b,o,none⟩/\Wrb w b o (o+cap*i.size))
  (hx:n=0\/∃b o,xo=some ⟨b,o,none⟩/\Rdb w b o (o+n*i.size)) (h1:(behind w (n*i.size) xo).all rU=true) :
  (∃b o,ao=some ⟨b,o,none⟩/\len+n<=cap/\(Builtin.append_ #[t,t2] ty #[.slice ao len cap,.slice xo n xc]).run P w =
   .ok (.slice ao (len+n) cap) (bG w b (o+len*i.size) (behind w (n*i.size) xo))) \/
  (len+n=0/\ao=none/\(Builtin.append_ #[t,t2] ty #[.slice ao len cap,.slice xo n xc]).run P w = .ok (.slice none 0 0) w) \/
  (∃newCap rest,cap<len+n/\len+n<=newCap/\rest.length=(newCap-(len+n))*i.size/\(Builtin.append_ #[t,t2] ty #[.slice ao len cap,.slice xo n xc]).run P w =
   .ok (.slice (some ⟨w.heap.size,0,none⟩) (len+n) newCap) (fK (kw w) (behind w (len*i.size) ao++behind w (n*i.size) xo++rest).toArray e)):=by
 have hfc:∀(w':aB) (f:Array aj->Sem aj),(∀b o,w'.cell? ⟨b,o,none⟩=w.cell? ⟨b,o,none⟩) ->
   ((Builtin.firstCells i.size n (.slice xo n xc)) >>= f).run P w'=(f (behind w (n*i.size) xo).toArray).run P w':=by
  intro w' f wG;have hb:behind w' (n*i.size) xo=behind w (n*i.size) xo:=by
   cases xo with
   | none=>rfl
   | some a=>simp only [behind,cellD,wG]
  rw [<-hb];refine aJ (Jk (hx.imp id fun ⟨b,o,h1,h2⟩=>⟨b,o,h1,fun o' g1 g2 => ?_⟩));rw [wG];exact h2 o' g1 g2
 have hl:(Builtin.lenOf (.slice xo n xc)).run P w = .ok n w:=rfl;unfold Builtin.append_;simp only [sQ,Co,Kn];simp only [aJ (run_underlying hE.slice w)];simp only [aJ (run_sizeOf hE.info w)];simp only [aJ (run_underlying ht2 w)];simp only [aJ (run_pure _ P w),iP,if_false,ib,if_true,false_or];simp only [aJ hl];by_cases hc:len+n<=cap
 ·simp only [hc,if_true];simp only [hfc w _ fun _ _=>rfl];rcases hs with ⟨rfl,rfl⟩|⟨b,o,rfl,hw⟩
  ·refine .inr (.inl ⟨by omega,rfl,?_⟩);have:len+n=0:=by omega
   rw [this];rfl
  ·refine .inl ⟨b,o,rfl,trivial,?_⟩;simp only [yZ];have agJ:(behind w (n*i.size) xo).length<=n*i.size:=by cases xo<;>simp [behind]
   have ac7:=jK i.size hc;rw [eu] at ac7;have:=y_ (P:=P) (b:=b) (o:=o+len*i.size) (behind w (n*i.size) xo) 0 w h1 (hw.sub (by omega) (by omega));simp only [qd] at this;simp only [aJ this];rfl
 ·simp only [hc,if_false];have hby:¬(((len+n:Nat):Int) > IntKind.i64.max):=by
   have:IntKind.i64.max=9223372036854775807:=by decide
   rw [this];omega
  simp only [aJ (run_typeInfo hE.info w),hby,false_and,if_false];have aw4:=nextslicecap_le (len+n) cap (by omega);have wH:¬Builtin.nextslicecap (len+n) cap*i.bytes > 2 ^ 48:=by
   have:=Nat.mul_le_mul aw4 hE.bytes;have:(2*(len+n)+512)*4096<=2 ^ 48:=by omega
   omega
  simp only [wH,if_false];have NI:(choose (.appendCap (len+n) cap e)).run P w = .ok ((Question.appendCap (len+n) cap e).cut (w.tape w.drawn (.appendCap (len+n) cap e))) (kw w):=rfl;simp only [aJ NI];have Ki:len+n<=(Question.appendCap (len+n) cap e).cut (w.tape w.drawn (.appendCap (len+n) cap e)):=by
   simp only [Question.cut];omega
  generalize (Question.appendCap (len+n) cap e).cut (w.tape w.drawn (.appendCap (len+n) cap e))=newCap at Ki ⊢;have aw5:(askRoom (newCap*i.bytes)).run P (kw w) = .ok () (kw w):=by
   unfold askRoom;split<;>rfl
  simp only [aJ (run_typeInfo hE.info (kw w)),aJ aw5];have mh:(Builtin.firstCells i.size len (.slice ao len cap)).run P (kw w) = .ok (behind w (len*i.size) ao).toArray (kw w):=by
   have hb:behind w (len*i.size) ao=behind (kw w) (len*i.size) ao:=by cases ao<;>rfl
   rw [hb];refine Jk ?_;rcases hs with ⟨_,rfl⟩|⟨b,o,rfl,hw⟩
   ·exact .inl (by omega)
   ·have ac7:=jK i.size bP;exact .inr ⟨b,o,rfl,hw.rdb.sub (eY _) (by omega)⟩
  simp only [aJ mh];simp only [hfc (kw w) _ fun _ _=>rfl];simp only [aJ (Dw hE.info hE.zero (kw w)),aJ (pU e _ (kw w))];refine .inr (.inr ⟨newCap,(Builtin.zeroCells z.cells (newCap-(len+n))).toList,by omega,Ki,?_,?_⟩)
  ·simp [Builtin.zeroCells,hE.zsize]
  ·rw [run_pure];congr 1;congr 1;apply Array.ext';simp
end Go.Fw
namespace Go.Fw
def splice {α:Type} (l:aa α) (off:Nat) (x:aa α):aa α:=l.take off++(x++l.drop (off+x.length))
theorem lI {α:Type} {l x:aa α} {off:Nat} (h:off+x.length<=l.length):(splice l off x).length=l.length:=by
 simp [splice];omega
theorem akY {α:Type} {l:aa α} {off:Nat} {a:α} {x:aa α} (h:off+(a::x).length<=l.length):splice l off (a::x)=splice (l.set off a) (off+1) x:=by
 simp only [bI] at h;unfold splice;simp only [bI];rw [List.drop_set_of_lt (by omega)];rw [show off+1+x.length=off+(x.length+1) from by omega,List.take_set,rO (by omega)];rw [List.set_append_right _ _ (by simp;omega)];have:off-(List.take off l).length=0:=by simp;omega
 rw [this];simp
theorem aoU {α:Type} (l:aa α) (off:Nat):splice l off []=l:=by simp [splice]
theorem foldl_set {x:aa aj}:∀{cells:Array aj} {off k:Nat},off+k+x.length<=cells.size ->
  ((x.zipIdx k).foldl (fun (cs:Array aj) (p:aj × Nat)=>cs.setIfInBounds (off+p.2) p.1) cells).toList=splice cells.toList (off+k) x:=by
 induction x with
 | nil=>intro cells off k _;simp [aoU]
 | cons a x ih=>
  intro cells off k h;simp only [bI] at h;simp only [List.zipIdx_cons,gK];rw [ih (by simp;omega)];rw [akY (by simp;omega)];simp [kN]
def wR {α:Type} (place:Nat->ah (Nat × Nat)):aa α->aa (Nat × aa α)->ah (aa α)
 | cells,[]=>some cells
 | cells,(i,x)::rest=>match place i with
  | none=>none
  | some (off,size)=>if x.length=size/\off+x.length<=cells.length then wR place (splice cells off x) rest else none
theorem RZ {place:Nat->ah (Nat × Nat)}:∀{parts:aa (Nat × aj)} {cells:Array aj} {l:aa aj},wR place cells.toList (parts.map fun p=>(p.1,p.2.cells.toList))=some l ->
  Instr.fill place cells parts=some l.toArray
 | [],cells,l,h=>by simp only [bM,wR,aO] at h;subst h;simp [Instr.fill]
 | (i,v)::rest,cells,l,h=>by
  simp only [bz,wR] at h
  unfold Instr.fill
  cases hp:place i with
  | none=>simp [hp] at h
  | some os=>
   obtain ⟨off,size⟩:=os
   simp only [hp] at h ⊢
   split at h
   ·rename_i hc
    simp only [RL] at hc
    have:¬((v.cells.size≠size || decide (off+v.cells.size > cells.size))=true):=by simp;omega
    rw [if_neg this]
    refine RZ ?_
    have hz:(Array.foldl (fun cs (x:aj × Nat)=>match x with | (c,j)=>cs.setIfInBounds (off+j) c) cells v.cells.zipIdx).toList=splice cells.toList off v.cells.toList:=by
     rw [<-Array.foldl_toList];have:=foldl_set (x:=v.cells.toList) (cells:=cells) (off:=off) (k:=0) (by simpa using hc.2);simpa [Array.toList_zipIdx] using this
    rw [hz]
    exact h
   ·cases h
theorem afX {α:Type} (e:Sem α):e.bind Sem.pure=e:=by
 induction e with
 | pure a=>rfl
 | halt h=>rfl
 | load m a k ih=>simp only [Sem.bind];congr 1;funext x;exact ih x
 | store m a v k ih=>simp only [Sem.bind];rw [ih]
 | new o k ih=>simp only [Sem.bind];congr 1;funext x;exact ih x
 | shape r k ih=>simp only [Sem.bind];congr 1;funext x;exact ih x
 | freeze a n k ih=>simp only [Sem.bind];rw [ih]
 | frozen a k ih=>simp only [Sem.bind];congr 1;funext x;exact ih x
 | getObj r k ih=>simp only [Sem.bind];congr 1;funext x;exact ih x
 | setObj r o k ih=>simp only [Sem.bind];rw [ih]
 | choose q k ih=>simp only [Sem.bind];congr 1;funext x;exact ih x
 | sys c k ih=>simp only [Sem.bind];congr 1;funext x;exact ih x
 | program k ih=>simp only [Sem.bind];congr 1;funext x;exact ih x
 | mark m k ih=>simp only [Sem.bind];rw [ih]
theorem abY {α β γ:Type} (e:Sem α) (f:α->Sem β) (g:β->Sem γ):(e.bind f).bind g=e.bind fun a=>(f a).bind g:=by
 induction e with
 | pure a=>rfl
 | halt h=>rfl
 | load m a k ih=>simp only [Sem.bind];congr 1;funext x;exact ih x
 | store m a v k ih=>simp only [Sem.bind];rw [ih]
 | new o k ih=>simp only [Sem.bind];congr 1;funext x;exact ih x
 | shape r k ih=>simp only [Sem.bind];congr 1;funext x;exact ih x
 | freeze a n k ih=>simp only [Sem.bind];rw [ih]
 | frozen a k ih=>simp only [Sem.bind];congr 1;funext x;exact ih x
 | getObj r k ih=>simp only [Sem.bind];congr 1;funext x;exact ih x
 | setObj r o k ih=>simp only [Sem.bind];rw [ih]
 | choose q k ih=>simp only [Sem.bind];congr 1;funext x;exact ih x
 | sys c k ih=>simp only [Sem.bind];congr 1;funext x;exact ih x
 | program k ih=>simp only [Sem.bind];congr 1;funext x;exact ih x
 | mark m k ih=>simp only [Sem.bind];rw [ih]
theorem adc:LawfulMonad Sem:=
 LawfulMonad.mk' Sem (id_map:=fun x=>afX x) (pure_bind:=fun _ _=>rfl) (bind_assoc:=fun x f g=>abY x f g)
theorem avR {α β:Type} {P:aS} {f:α->Sem β} {g:α->β} {as:Array α} (h:∀a,a∈as.toList->∀w,(f a).run P w = .ok (g a) w) (w:aB):(as.mapM f).run P w = .ok (as.map g) w:=by
 rw [@Array.mapM_eq_foldlM Sem α β _ adc f as,<-Array.foldlM_toList];have key:∀(l:aa α) (acc:Array β),(∀a,a∈l->∀w,(f a).run P w = .ok (g a) w)->(l.foldlM (fun bs a=>bs.push <$> f a) acc:Sem (Array β)).run P w = .ok (acc++(l.map g).toArray) w:=by
  intro l;induction l with
  | nil=>intro acc _;simp [List.foldlM,run_pure]
  | cons a l ih=>
   intro acc hl;simp only [List.foldlM_cons];have:(acc.push <$> f a:Sem (Array β)).run P w = .ok (acc.push (g a)) w:=by
    show ((f a) >>= fun b=>pure (acc.push b)).run P w=_;rw [aJ (hl a (by simp) w)];rfl
   rw [aJ this,ih _ fun a ha=>hl a (by simp [ha])];congr 1;apply Array.ext';simp
 rw [key as.toList #[] h];congr 1;apply Array.ext';simp
def placesOf (P:aS) (fs:Array Field):aa (Nat × Nat):=fs.toList.map fun f=>(f.offset,((P.info? f.type).map (·.size)).getD 0)
theorem run_build {P:aS} {t:TypeId} {fs:Array Field} {i:TypeInfo} {z:aj} {parts:Array (Nat × aj)} {l:aa aj} {w:aB} (hu:P.underlying t=some (.struct fs))
  (hi:P.info? t=some i) (hz:i.zero=some z) (hf:fs.toList.all (fun f=>(P.info? f.type).isSome)=true)
  (hl:wR (fun k=>(placesOf P fs)[k]?) z.cells.toList (parts.toList.map fun p=>(p.1,p.2.cells.toList))=some l):(Instr.build t parts).run P w = .ok (.agg l.toArray) w:=by
 unfold Instr.build;rw [aJ (Dw hi hz w)];simp only;rw [aJ (run_underlying hu w)];simp only;have hm:=avR (P:=P) (f:=fun f:Field=>(do pure (f.offset,<-sizeOf f.type):Sem (Nat × Nat))) (g:=fun f=>(f.offset,((P.info? f.type).map (·.size)).getD 0)) (as:=fs) (by
  intro a ha w
  have:=bX.1 hf a ha
  obtain ⟨ia,hia⟩:=Option.isSome_iff_exists.1 this
  rw [aJ (run_sizeOf hia w)]
  simp [hia,run_pure]) w
 rw [aJ hm];have h2:(fun k:Nat=>(fs.map fun f:Field=>(f.offset,((P.info? f.type).map (·.size)).getD 0))[k]?)=fun k:Nat=>(placesOf P fs)[k]?:=by
  funext k;simp [placesOf]
 rw [h2,RZ hl];rfl
theorem run_buildSlice {P:aS} {t e:TypeId} {i:TypeInfo} {z:aj} {n:Nat} {parts:Array (Nat × aj)} {l:aa aj} {w:aB} (hE:NW P t e i z) (hn:n*i.size<=16777216)
  (hl:wR (fun k=>some (k*i.size,i.size)) ((List.replicate n z.cells.toList).flatten) (parts.toList.map fun p=>(p.1,p.2.cells.toList))=some l) :
  (Instr.buildSlice t n parts).run P w = .ok (.slice (some ⟨w.heap.size,0,none⟩) n n) (fK w l.toArray e):=by
 unfold Instr.buildSlice;rw [aJ (run_underlying hE.slice w)];simp only;rw [aJ (run_sizeOf hE.info w)];have h0:¬n*i.size > 2 ^ 24:=by omega
 simp only [h0,if_false];have agK:∀zc:Array aj,(n≠0->zc=z.cells)->((Array.range (n*i.size)).map (zc[· % zc.size]!)).toList=(List.replicate n z.cells.toList).flatten:=by
  intro zc hzc;by_cases rG:n=0
  ·subst rG;simp
  ·rw [hzc rG,X4,Array.toList_range];have dH:=hE.zsize;have yw:=hE.pos;apply X5
   ·simp [dH]
   ·intro k h1 h2;simp only [dY,sU] at h1;rw [List.getElem_map,List.getElem_range];rw [<-dH] at h1 yw;have hk:k % z.cells.size<z.cells.size:=Nat.mod_lt _ yw;have key:∀(n k:Nat),k<n*z.cells.size->((List.replicate n z.cells.toList).flatten)[k]?=some (z.cells[k % z.cells.size]'(Nat.mod_lt _ yw)):=by
     intro n;induction n with
     | zero=>intro k hk;omega
     | succ n ih=>
      intro k hk;rw [List.replicate_succ,Ku,List.getElem?_append];split
      ·rename_i bU;have ako:k<z.cells.size:=by simpa using bU
       simp [Nat.mod_eq_of_lt ako,ako]
      ·rename_i Ki;have aw6:z.cells.size<=k:=by simpa using Ki
       rw [eu,AL] at hk;rw [show z.cells.toList.length=z.cells.size from by simp,ih _ (by omega)];congr 1;congr 1;rw [Nat.mod_eq_sub_mod aw6]
    have:=key n k h1;rw [aT h2] at this;simp only [aO] at this;rw [this];simp [hk]
 by_cases rG:n*i.size=0
 ·have hn1:n=0:=by
   have:=hE.pos;rcases Nat.mul_eq_zero.1 rG with h|h<;>omega
  have hf:=agK #[] fun h=>absurd hn1 h
  simp only [rG,if_true,aJ (run_pure _ P w)];rw [RZ (l:=l) (by rw [<-hl,<-hf,rG])];simp only [aJ (pU e _ w)];rfl
 ·have hf:=agK z.cells fun _=>rfl
  simp only [rG,if_false];rw [aJ (Dw hE.info hE.zero w),aJ (run_pure _ P w)];rw [RZ (l:=l) (by rw [<-hl,<-hf])];simp only [aJ (pU e _ w)];rfl
theorem X_ {z:aj} {size:Nat} (dH:z.cells.size=size) (yw:0<size) (n:Nat) (zc:Array aj) (hzc:n≠0->zc=z.cells) :
  ((Array.range (n*size)).map (zc[· % zc.size]!)).toList=(List.replicate n z.cells.toList).flatten:=by
 by_cases rG:n=0
 ·subst rG;simp
 ·rw [hzc rG,X4,Array.toList_range];apply X5
  ·simp [dH]
  ·intro k h1 h2;simp only [dY,sU] at h1;rw [List.getElem_map,List.getElem_range];rw [<-dH] at h1 yw;have hk:k % z.cells.size<z.cells.size:=Nat.mod_lt _ yw;have key:∀(n k:Nat),k<n*z.cells.size->((List.replicate n z.cells.toList).flatten)[k]?=some (z.cells[k % z.cells.size]'(Nat.mod_lt _ yw)):=by
    intro n;induction n with
    | zero=>intro k hk;omega
    | succ n ih=>
     intro k hk;rw [List.replicate_succ,Ku,List.getElem?_append];split
     ·rename_i bU;have ako:k<z.cells.size:=by simpa using bU
      simp [Nat.mod_eq_of_lt ako,ako]
     ·rename_i Ki;have aw6:z.cells.size<=k:=by simpa using Ki
      rw [eu,AL] at hk;rw [show z.cells.toList.length=z.cells.size from by simp,ih _ (by omega)];congr 1;congr 1;rw [Nat.mod_eq_sub_mod aw6]
   have:=key n k h1;rw [aT h2] at this;simp only [aO] at this;rw [this];simp [hk]
theorem run_makeSlice {P:aS} {t e:TypeId} {i:TypeInfo} {z:aj} {n:Nat} {k:IntKind} {w:aB} (hE:NW P t e i z) (hn:n<=4294967296) :
  (Instr.makeSlice t (.int k (n:Int)) (.int k (n:Int))).run P w =
   .ok (.slice (some ⟨w.heap.size,0,none⟩) n n) (fK w ((List.replicate n z.cells.toList).flatten).toArray e):=by
 unfold Instr.makeSlice;rw [aJ (run_underlying hE.slice w)];simp only;have fq:(asInt (.int k (n:Int))).run P w = .ok (n:Int) w:=rfl;rw [aJ fq,aJ fq,aJ (run_typeInfo hE.info w)];have hwr:IntKind.i64.wrap (n:Int)=n:=IntWalk.i64_in _ (by omega);have hb:=hE.bytes;have ac7:i.bytes*n<=4096*4294967296:=Nat.mul_le_mul hb hn;have aFK:¬((i.bytes:Int)*(n:Int) > 2 ^ 48):=by
  rw [<-Int.natCast_mul];generalize i.bytes*n=q at ac7;omega
 have aCk:¬((n:Int)<0):=by omega
 simp only [hwr];rw [if_neg (by
  simp only [iE,decide_eq_true_eq,not_or]
  exact ⟨⟨⟨aCk,aFK⟩,aCk⟩,by omega⟩)]
 have aw5:(askRoom ((n:Int).toNat*i.bytes)).run P w = .ok () w:=by
  unfold askRoom;split<;>rfl
 rw [aJ aw5,aJ (run_sizeOf hE.info w)];simp only [iB];by_cases rG:n*i.size=0
 ·have hn1:n=0:=by
   have:=hE.pos;rcases Nat.mul_eq_zero.1 rG with h|h<;>omega
  have hf:=X_ hE.zsize hE.pos n #[] fun h=>absurd hn1 h
  simp only [rG,if_true,aJ (run_pure _ P w)];rw [aJ (pU e _ w),<-hf,rG];subst hn1;rfl
 ·have hf:=X_ hE.zsize hE.pos n z.cells fun _=>rfl
  simp only [rG,if_false];rw [aJ (Dw hE.info hE.zero w),aJ (run_pure _ P w),aJ (pU e _ w),<-hf];rfl
end Go.Fw
namespace Go.Fw
def iT (d:Nat) (p:Pl):ah Pl:=if p.1=d then none else some p
section
variable {ac:Nat->Nat->aj} {κ0 κ:aP} {w0 w w':aB} {N:Nat} {tg:Nat->TT} {sv:Nat->AV} {tm:Nat->aj}
def kG (tg:Nat->TT) (d:Nat) (tag:TT):Nat->TT:=upd (fun t=>(tg t).kill [d] []) d tag
theorem nT (h:R ac κ0 w0 κ w N tg sv tm) {d:Nat} (hd:d<N) {tag:TT} {av:AV} {x:aj} {nb:ah (Nat × Pl)} (hw:Grows w w')
  (oG:∀b p,nb=some (b,p)->w.heap.size<=b/\b<w'.heap.size)
  (ht:TR ac (aX κ (iT d) nb) w' (kG tg d tag) (upd sv d av) (upd tm d x) d tag) :
  R ac κ0 w0 (aX κ (iT d) nb) w' N (kG tg d tag) (upd sv d av) (upd tm d x):=by
 refine abW (mods:=[d]) (M:=[]) h (by have:=h.nle;simp;omega) hw (fun r q hr => ?_) (fun r q p hp _ => ?_) oG (fun r hr => ?_) (fun r hr => ?_) (fun r hr => ?_) (fun t nH => ?_) (fun t lT => ?_)
 ·simp at hr;simp [iT,hr]
 ·unfold iT at hp;split at hp
  ·cases hp
  ·cases hp;rfl
 ·simp at hr;simp [kG,upd,hr]
 ·simp at hr;simp [upd,hr]
 ·simp at hr;simp [upd,hr]
 ·simp at nH;subst nH;simpa [kG,upd] using ht
 ·have aZ:t≠d:=by omega
  simp [kG,upd,aZ,h.out t lT,TT.kill]
theorem KD (cs:aa CT):cs.map (oJ [])=cs:=by
 have:oJ []=id:=by funext c;exact ada c
 rw [this];simp
theorem azd {κ':aP} {tg':Nat->TT} {d:Nat} {y:aj} (hy:sc y=true) :
  TR ac κ' w' tg' (upd sv d (.v [.v y] [])) (upd tm d y) d (.val false [.d]):=by
 simp only [TR,bD];refine ⟨_,[y],rfl,?_,rfl,?_,?_⟩
 ·cases y<;>simp [sc] at hy<;>rfl
 ·intro k j c e hk;cases k<;>simp at hk
 ·simp only [aC,RC];exact ⟨⟨rfl,hy⟩,trivial⟩
end
end Go.Fw
namespace Go.Fw
mutual
def CT.nown:CT->Bool
 | .d=>true
 | .sl (.own _) _=>false
 | .sl _ e=>CT.nowns e
def CT.nowns:aa CT->Bool
 | []=>true
 | c::cs=>c.nown&&CT.nowns cs
end
mutual
def CT.srcs:CT->aa Nat
 | .d=>[]
 | .sl (.ro S) e=>S++CT.srcss e
 | .sl _ e=>CT.srcss e
def CT.srcss:aa CT->aa Nat
 | []=>[]
 | c::cs=>c.srcs++CT.srcss cs
end
mutual
theorem ar0 {S:aa Nat}:∀{c:CT},(∀r,r∈c.srcs->r∈S)->c.allS (fun S0=>∀r,r∈S0->r∈S)
 | .d,_=>by simp [CT.allS]
 | .sl (.ro S0) e,h=>by
  simp only [CT.srcs,bJ] at h;simp only [CT.allS];exact ⟨fun r hr=>h r (.inl hr),kQ fun r hr=>h r (.inr hr)⟩
 | .sl (.own _) e,h=>by simp only [CT.srcs] at h;simp only [CT.allS];exact kQ h
 | .sl .dead e,h=>by simp only [CT.srcs] at h;simp only [CT.allS];exact kQ h
theorem kQ {S:aa Nat}:∀{cs:aa CT},(∀r,r∈CT.srcss cs->r∈S)->CT.allSs (fun S0=>∀r,r∈S0->r∈S) cs
 | [],_=>by simp [CT.allSs]
 | c::cs,h=>by
  simp only [CT.srcss,bJ] at h;simp only [CT.allSs];exact ⟨ar0 fun r hr=>h r (.inl hr),kQ fun r hr=>h r (.inr hr)⟩
end
mutual
theorem ade {P:aa Nat->Prop} (h:∀S,P S):∀c:CT,c.allS P
 | .d=>by simp [CT.allS]
 | .sl (.ro S0) e=>by simp only [CT.allS];exact ⟨h S0,iH h e⟩
 | .sl (.own _) e=>by simp only [CT.allS];exact iH h e
 | .sl .dead e=>by simp only [CT.allS];exact iH h e
theorem iH {P:aa Nat->Prop} (h:∀S,P S):∀cs:aa CT,CT.allSs P cs
 | []=>by simp [CT.allSs]
 | c::cs=>by simp only [CT.allSs];exact ⟨ade h c,iH h cs⟩
end
mutual
theorem aoV (S:aa Nat):∀c:CT,(c.roize S).nown=true
 | .d=>by simp [CT.roize,CT.nown]
 | .sl _ e=>by simp [CT.roize,CT.nown,oL S e]
theorem oL (S:aa Nat):∀cs:aa CT,CT.nowns (CT.roizes S cs)=true
 | []=>by simp [CT.roizes,CT.nowns]
 | c::cs=>by simp [CT.roizes,CT.nowns,aoV S c,oL S cs]
end
mutual
theorem aoW (S:aa Nat):∀c:CT,(c.roize S).live=true
 | .d=>by simp [CT.roize,CT.live]
 | .sl _ e=>by simp [CT.roize,CT.live,wS S e]
theorem wS (S:aa Nat):∀cs:aa CT,CT.lives (CT.roizes S cs)=true
 | []=>by simp [CT.roizes,CT.lives]
 | c::cs=>by simp [CT.roizes,CT.lives,aoW S c,wS S cs]
end
section copy
variable {κ κ':aP} {w w':aB} {P:aa Nat->Prop}
mutual
theorem abZ (bu:∀S,P S->∀b,bn κ w S b->bn κ' w' S b/\Same w w' b):∀{c:CT} {p p':Pl} {x:aj} {a:A},c.nown=true->c.allS P->RC κ w c p x a->RC κ' w' c p' x a
 | .d,_,_,_,.v _,_,_,h=>by simp only [RC] at h ⊢;exact h
 | .sl (.ro S) e,p,p',x,.s xs,hn,hs,h=>by
  simp only [RC,CT.allS,CT.nown] at h hs hn ⊢;obtain ⟨ao,cap,hx,df,hc⟩:=h;refine ⟨ao,cap,hx,df,?_⟩;rcases hc with h0|⟨b,o,rfl,hb,hr,he⟩
  ·exact .inl h0
  ·obtain ⟨cO,fO⟩:=bu S hs.1 b hb;refine .inr ⟨b,o,rfl,cO,fO.rdb hr,?_⟩;refine Jh (fun i _ hi => ?_) (Wi bu hn hs.2 he);exact fO.cD hr (by omega) (by omega)
 | .sl .dead e,_,_,_,a,_,_,_=>by cases a<;>simp [RC]
 | .sl (.own _) _,_,_,_,_,hn,_,_=>by simp [CT.nown] at hn
 | .d,_,_,_,.s _,_,_,h=>by simp [RC] at h
 | .sl (.ro _) _,_,_,_,.v _,_,_,h=>by simp [RC] at h
theorem adf (bu:∀S,P S->∀b,bn κ w S b->bn κ' w' S b/\Same w w' b):∀{cs:aa CT} {p p':Pl} {j:Nat} {get:Nat->aj} {as:aa A},CT.nowns cs=true->CT.allSs P cs ->
  aC κ w cs p j get as->aC κ' w' cs p' j get as
 | [],_,_,_,_,[],_,_,_=>by simp [aC]
 | c::cs,p,p',j,get,a::as,hn,hs,h=>by
  simp only [CT.allSs,CT.nowns,aU,aC] at h hs hn ⊢;exact ⟨abZ bu hn.1 hs.1 h.1,adf bu hn.2 hs.2 h.2⟩
 | [],_,_,_,_,_::_,_,_,h=>by simp [aC] at h
 | _::_,_,_,_,_,[],_,_,h=>by simp [aC] at h
theorem Wi (bu:∀S,P S->∀b,bn κ w S b->bn κ' w' S b/\Same w w' b):∀{e:aa CT} {p p':Pl} {j:Nat} {get:Nat->aj} {xs:aa (aa A)},CT.nowns e=true->CT.allSs P e ->
  dC κ w e p j get xs->dC κ' w' e p' j get xs
 | _,_,_,_,_,[],_,_,_=>by simp [dC]
 | e,p,p',j,get,x::xs,hn,hs,h=>by
  simp only [dC] at h ⊢;exact ⟨adf bu hn hs h.1,Wi bu hn hs h.2⟩
end
theorem jR (bu:∀S,P S->∀b,bn κ w S b->bn κ' w' S b/\Same w w' b) {cs:aa CT} {p p':Pl} {j j':Nat} {get get':Nat->aj} {as:aa A} (hn:CT.nowns cs=true) (hs:CT.allSs P cs)
  (hg:∀i,i<cs.length->get' (j'+i)=get (j+i)) (h:aC κ w cs p j get as):aC κ' w' cs p' j' get' as:=by
 induction cs generalizing j j' as with
 | nil=>cases as with
  | nil=>simp [aC]
  | cons=>simp [aC] at h
 | cons c cs ih=>
  cases as with
  | nil=>simp [aC] at h
  | cons a as=>
   simp only [CT.allSs,CT.nowns,aU,aC] at h hs hn ⊢;refine ⟨?_,ih hn.2 hs.2 (fun i hi => ?_) h.2⟩
   ·have:=hg 0 (by simp);simp at this;rw [this];exact abZ bu hn.1 hs.1 h.1
   ·have:=hg (i+1) (by simpa using hi);rw [show j'+1+i=j'+(i+1) from by omega,show j+1+i=j+(i+1) from by omega];exact this
end copy
theorem aDt {κ:aP} {w:aB} {c:CT} {p:Pl} {x:aj} {a:A} (hl:c.live=true) (h:RC κ w c p x a):x≠undef:=by
 cases c with
 | d=>
  cases a with
  | v y=>simp only [RC] at h;obtain ⟨rfl,hs⟩:=h;rintro rfl;simp [undef,sc] at hs
  | s xs=>simp [RC] at h
 | sl m e=>
  cases m with
  | dead=>simp [CT.live] at hl
  | own k=>
   cases a with
   | v y=>simp [RC] at h
   | s xs=>simp only [RC] at h;obtain ⟨_,_,rfl,_⟩:=h;simp [undef]
  | ro S=>
   cases a with
   | v y=>simp [RC] at h
   | s xs=>simp only [RC] at h;obtain ⟨_,_,rfl,_⟩:=h;simp [undef]
theorem rV:∀{cs:aa CT} {k:Nat} {c:CT},CT.lives cs=true->cs[k]?=some c->c.live=true
 | c::cs,0,c',h,hc=>by simp at hc;subst hc;simp only [CT.lives,aU] at h;exact h.1
 | c::cs,k+1,c',h,hc=>by simp only [CT.lives,aU] at h;exact rV h.2 (by simpa using hc)
 | [],_,_,_,hc=>by simp at hc
theorem ar1 {κ:aP} {w:aB} {cs:aa CT} {p:Pl} {j:Nat} {get:Nat->aj} {as:aa A} (hl:CT.lives cs=true) (h:aC κ w cs p j get as) (k:Nat) (hk:k<cs.length):get (j+k)≠undef:=by
 have bP:=dE h;exact aDt (rV hl (aT hk)) (gW h (aT hk) (aT (by omega)))
theorem mU {κ:aP} {w w':aB} {d:Nat} {nb:ah (Nat × Pl)} (hw:Grows w w') (oG:∀b p,nb=some (b,p)->w.heap.size<=b) (S:aa Nat) (b:Nat) (h:bn κ w S b) :
  bn (aX κ (iT d) nb) w' S b/\Same w w' b:=by
 refine ⟨⟨pO h.1 hw.size,fun r p hr => ?_⟩,hw.same b⟩;have jC:(κ b).bind (iT d)=some (r,p):=by
  unfold aX at hr;cases nb with
  | none=>exact hr
  | some q=>
   obtain ⟨b',p'⟩:=q;have:=oG b' p' rfl;have:=h.1;simp only at hr;rwa [if_neg (by omega)] at hr
 cases hk:κ b with
 | none=>simp [hk] at jC
 | some p0=>
  simp only [hk,ae,iT] at jC;split at jC
  ·cases jC
  ·cases jC;exact h.2 r p hk
theorem wT {κ:aP} {w:aB} {d r b:Nat} {q:aa Nat} (hr:r≠d) (h:κ b=some (r,q)) (_:∀b,w.heap.size<=b->κ b=none):aX κ (iT d) none b=some (r,q):=by
 simp [aX,h,iT,hr]
section ops
variable {ac:Nat->Nat->aj} {κ0 κ:aP} {w0 w w':aB} {N:Nat} {tg:Nat->TT} {sv:Nat->AV} {tm:Nat->aj}
theorem Ya (h:R ac κ0 w0 κ w N tg sv tm) {d:Nat} (hd:d<N) {y:aj} (hy:sc y=true) (hw:Grows w w') :
  R ac κ0 w0 (aX κ (iT d) none) w' N (kG tg d (.val false [.d])) (upd sv d (.v [.v y] [])) (upd tm d y):=
 nT h hd hw (fun _ _ h=>by cases h) (azd hy)
theorem aAu (h:R ac κ0 w0 κ w N tg sv tm) {d t:Nat} (hd:d<N) {ag:Bool} {cs:aa CT} (ht:tg t = .val ag cs) (hn:CT.nowns cs=true) {as:aa A} (hs:sv t = .v as []) :
  R ac κ0 w0 (aX κ (iT d) none) w N (kG tg d (.val ag cs)) (upd sv d (.v as [])) (upd tm d (tm t)):=by
 refine nT h hd (Grows.refl w) (fun _ _ h=>by cases h) ?_;have h1:=h.tr t;rw [ht] at h1;simp only [TR,bD] at h1 ⊢;obtain ⟨as',vs,g1,g2,g3,g4,g5⟩:=h1;rw [hs] at g1;cases g1;exact ⟨as,vs,rfl,g2,g3,g4,jR (P:=fun _=>True) (fun S _ b hb=>mU (Grows.refl w) (fun _ _ h=>by cases h) S b hb) hn (iH (fun _=>trivial) cs) (fun _ _=>rfl) g5⟩
theorem aze (h:R ac κ0 w0 κ w N tg sv tm) {d t:Nat} (hd:d<N) (yQ:t≠d) {ag:Bool} {cs:aa CT} (ht:tg t = .val ag cs) (hl:CT.lives cs=true) {as:aa A} (hs:sv t = .v as []) {S:aa Nat}
  (hS:t∈S) (hS2:∀r,r∈CT.srcss cs->r∈S) :
  R ac κ0 w0 (aX κ (iT d) none) w N (kG tg d (.alias ag (CT.roizes S cs) t [] 0 S)) (upd sv d (.v as [])) (upd tm d (tm t)):=by
 refine nT h hd (Grows.refl w) (fun _ _ h=>by cases h) ?_;have h1:=h.tr t;rw [ht] at h1;simp only [TR,bD,kG,upd_ne _ _ _ yQ,ht,TT.kill,KD] at h1 ⊢;obtain ⟨as',vs,g1,g2,g3,g4,g5⟩:=h1;rw [hs] at g1;cases g1;have ko:=fun S b hb=>mU (κ:=κ) (w:=w) (w':=w) (d:=d) (nb:=none) (Grows.refl w) (fun _ _ h=>by cases h) S b hb
 have g6:aC κ w (CT.roizes S cs) (d,[]) 0 (fun k=>vs.getD k undef) as:=RX hl hS (kQ hS2) (fun _ _=>rfl) g5;have g7:aC (aX κ (iT d) none) w (CT.roizes S cs) (d,[]) 0 (fun k=>vs.getD k undef) as:=
  jR (P:=fun _=>True) (fun S _ b hb=>ko S b hb) (oL S cs) (iH (fun _=>trivial) _) (fun _ _=>rfl) g6
 have lF:rg w (.val ag cs) (tm t)=fun k=>vs.getD k undef:=by funext k;simp [rg,g2]
 refine ⟨as,[],vs,_,as,as,rfl,g2,by rw [dx];exact g3,wS S cs,g7,by rw [lF];rfl,by simp [PO],fun b hb=>by simp [rb] at hb,fun h=>absurd rfl h,fun k hk=>⟨by simp,?_⟩,hs,rfl,?_⟩
 ·rw [dx] at hk;have:=ar1 hl g5 k hk;simpa using this
 ·have:=dE g5;rw [dx,tu,RI (by omega)]
theorem ar2 (h:R ac κ0 w0 κ w N tg sv tm) {d t:Nat} (hd:d<N) {ag:Bool} {cs:aa CT} {r:Nat} {sk:Sk} {off:Nat} {S:aa Nat} (ht:tg t = .alias ag cs r sk off S) (hr:r≠d) (hn:CT.nowns cs=true) :
  R ac κ0 w0 (aX κ (iT d) none) w N (kG tg d (.alias ag cs r sk off S)) (upd sv d (sv t)) (upd tm d (tm t)):=by
 refine nT h hd (Grows.refl w) (fun _ _ h=>by cases h) ?_;have h1:=h.tr t;rw [ht] at h1;have ko:=fun S b hb=>mU (κ:=κ) (w:=w) (w':=w) (d:=d) (nb:=none) (Grows.refl w) (fun _ _ h=>by cases h) S b hb
 simp only [TR,bD,kG,upd_ne _ _ _ hr,(nR w [d] [] (tg r) (tm r)).2,show rg w ((tg r).kill [d] []) (tm r)=rg w (tg r) (tm r) from (nR w [d] [] (tg r) (tm r)).1] at h1 ⊢;obtain ⟨as,is,vs,g,ra,row,h1,h2,h3,hl,h4,h5,h6,h7,h8,h9,h10,Ho,dQ⟩:=h1;have h6':PO (aX κ (iT d) none) w S (rg w (tg r) (tm r)) sk is:=by
  cases sk with
  | nil=>simp [PO]
  | cons s sk=>
   simp only [fJ,dh] at h5;obtain ⟨BO,h5,_⟩:=h5;exact (yX (ko S) (fun k _=>rfl) h6 h5).2
 exact ⟨as,is,vs,g,ra,row,h1,h2,h3,hl,jR (P:=fun _=>True) (fun S _ b hb=>ko S b hb) hn (iH (fun _=>trivial) _) (fun _ _=>rfl) h4,h5,h6',fun b hb=>wT hr (h7 b hb) h.col,h8,h9,h10,Ho,dQ⟩
theorem azf (h:R ac κ0 w0 κ w N tg sv tm) {d t:Nat} (hd:d<N) {r:Nat} {sk:Sk} {off:Nat} {S:aa Nat} (ht:tg t = .ptr r sk off S) (hr:r≠d) :
  R ac κ0 w0 (aX κ (iT d) none) w N (kG tg d (.ptr r sk off S)) (upd sv d (sv t)) (upd tm d (tm t)):=by
 refine nT h hd (Grows.refl w) (fun _ _ h=>by cases h) ?_;have h1:=h.tr t;rw [ht] at h1;have ko:=fun S b hb=>mU (κ:=κ) (w:=w) (w':=w) (d:=d) (nb:=none) (Grows.refl w) (fun _ _ h=>by cases h) S b hb
 simp only [TR,bD,kG,upd_ne _ _ _ hr,(nR w [d] [] (tg r) (tm r)).2,show rg w ((tg r).kill [d] []) (tm r)=rg w (tg r) (tm r) from (nR w [d] [] (tg r) (tm r)).1] at h1 ⊢;obtain ⟨is,B,O,h1,h2,h3,h4,h5⟩:=h1;exact ⟨is,B,O,h1,h2,(yX (ko S) (fun k _=>rfl) h3 h2).2,fun b hb=>wT hr (h4 b hb) h.col,h5⟩
theorem aDu (h:R ac κ0 w0 κ w N tg sv tm) {d t:Nat} (hd:d<N) (yQ:t≠d) {cs:aa CT} (ht:tg t = .box cs) :
  R ac κ0 w0 (aX κ (iT d) none) w N (kG tg d (.ptr t [] 0 [t])) (upd sv d (.p [])) (upd tm d (tm t)):=by
 refine nT h hd (Grows.refl w) (fun _ _ h=>by cases h) ?_;have h1:=h.tr t;rw [ht] at h1;have ko:=fun S b hb=>mU (κ:=κ) (w:=w) (w':=w) (d:=d) (nb:=none) (Grows.refl w) (fun _ _ h=>by cases h) S b hb
 simp only [TR,bD,kG,upd_ne _ _ _ yQ,ht,TT.kill] at h1 ⊢;obtain ⟨as,b,g1,g2,g3,g4,g5,g6,g7⟩:=h1;rw [g2];exact ⟨[],b,0,rfl,by simp [iF,rb,wk],by simp [PO],fun b' cO=>by simp [rb] at cO;subst cO;exact wT yQ g4 h.col,rfl⟩
end ops
end Go.Fw
namespace Go.Fw
def tY (srcs:aa Nat) (d:Nat) (f:Nat->Nat->ah (aa Nat)) (p:Pl):ah Pl:=
 if p.1∈srcs then match p.2 with
  | k::q=>(f p.1 k).map fun P=>(d,P++q)
  | []=>none
 else if p.1=d then none else some p
theorem nU {κ:aP} {w w':aB} {F:Pl->ah Pl} {nb:ah (Nat × Pl)} {M S:aa Nat} (hw:Grows w w') (hM:∀r q p,F (r,q)=some p->r∉M->p=(r,q))
  (oG:∀b p,nb=some (b,p)->w.heap.size<=b) (hS:∀m,m∈M->m∉S) (b:Nat) (h:bn κ w S b):bn (aX κ F nb) w' S b/\Same w w' b:=by
 refine ⟨⟨pO h.1 hw.size,fun r p hr => ?_⟩,hw.same b⟩;have jC:(κ b).bind F=some (r,p):=by
  unfold aX at hr;cases nb with
  | none=>exact hr
  | some q=>
   obtain ⟨b',p'⟩:=q;have:=oG b' p' rfl;have:=h.1;simp only at hr;rwa [if_neg (by omega)] at hr
 cases hk:κ b with
 | none=>simp [hk] at jC
 | some p0=>
  obtain ⟨r0,q0⟩:=p0;simp only [hk,ae] at jC;by_cases hm:r0∈M
  ·exact absurd (h.2 r0 q0 hk).1 (hS r0 hm)
  ·have:=hM r0 q0 _ jC hm;cases this;exact h.2 _ _ hk
theorem rW {κ:aP} {w:aB} {F:Pl->ah Pl} {nb:ah (Nat × Pl)} (oG:∀b p,nb=some (b,p)->w.heap.size<=b) (hc:∀b,w.heap.size<=b->κ b=none) {b:Nat} {p:Pl} (h:κ b=some p) :
  aX κ F nb b=F p:=by
 have hb:b<w.heap.size:=by
  apply sW;intro df;rw [hc b df] at h;cases h
 unfold aX;cases nb with
 | none=>simp [h]
 | some q=>
  obtain ⟨b',p'⟩:=q;have:=oG b' p' rfl;simp only;rw [if_neg (by omega),h];rfl
theorem aoX {srcs:aa Nat} {d:Nat} {f:Nat->Nat->ah (aa Nat)}:∀r q p,tY srcs d f (r,q)=some p->r∉srcs->p=(r,q):=by
 intro r q p h hr;unfold tY at h;simp only [hr,if_false] at h;split at h
 ·cases h
 ·cases h;rfl
structure Part (κ:aP) (w:World) (srcs:List Nat) (t:Nat) (cs:List CT) (vs:List Value) (as:List A):Prop where
 row:aC κ w cs (t,[]) 0 (fun k=>vs.getD k undef) as
 len:vs.length=cs.length
 own:t∈srcs\/CT.nowns cs=true
 men:CT.mens srcs cs=false
section
variable {ac:Nat->Nat->aj} {κ0 κ:aP} {w0 w w':aB} {N:Nat} {tg:Nat->TT} {sv:Nat->AV} {tm:Nat->aj}
theorem wU {srcs:aa Nat} {d t:Nat} {f:Nat->Nat->ah (aa Nat)} {nb:ah (Nat × Pl)} {Q:aa Nat} {off:Nat} {cs:aa CT} {vs:aa aj} {as:aa A} {get:Nat->aj}
  (hw:Grows w w') (oG:∀b p,nb=some (b,p)->w.heap.size<=b) (hc:∀b,w.heap.size<=b->κ b=none) (hp:Part κ w srcs t cs vs as)
  (hf:∀k,k<cs.length->t∈srcs->f t k=some (Q++[off+k])) (hg:∀i,i<cs.length->get (off+i)=vs.getD i undef) :
  aC (aX κ (tY srcs d f) nb) w' cs (d,Q) off get as:=by
 have bu:∀S,(∀m,m∈srcs->m∉S)->∀b,bn κ w S b->bn (aX κ (tY srcs d f) nb) w' S b/\Same w w' b:=
  fun S hS b hb=>nU hw aoX oG hS b hb
 have hs:CT.allSs (fun S=>∀m,m∈srcs->m∉S) cs:=eU (fun S hS=>hS) hp.men;by_cases ht:t∈srcs
 ·have:=fZ (f:=id) (κ':=aX κ (tY srcs d f) nb) (w':=w') (p':=(d,Q)) (get':=get) (j':=off) bu hs (fun i hi b q hb=>⟨?_,hw.same b⟩) (fun i hi=>by simpa using hg i hi) hp.row
  ·rwa [iR] at this
  ·rw [rW oG hc hb];simp only [tY,ht,if_true,gX,dG];rw [hf i hi ht];simp
 ·have hn:CT.nowns cs=true:=hp.own.resolve_left ht;exact jR bu hn hs (fun i hi=>by simpa using hg i hi) hp.row
theorem Dk (h:R ac κ0 w0 κ w N tg sv tm) {d:Nat} (hd:d<N) {srcs:aa Nat} (qx:FB∉srcs) {f:Nat->Nat->ah (aa Nat)} {tag:TT} {av:AV} {x:aj} {nb:ah (Nat × Pl)} (hw:Grows w w')
  (oG:∀b p,nb=some (b,p)->w.heap.size<=b/\b<w'.heap.size) {tg':Nat->TT} (sM:tg'=upd (fun t=>if t∈srcs then .dead else (tg t).kill (d::srcs) srcs) d tag)
  (ht:TR ac (aX κ (tY srcs d f) nb) w' tg' (upd sv d av) (upd tm d x) d tag) :
  R ac κ0 w0 (aX κ (tY srcs d f) nb) w' N tg' (upd sv d av) (upd tm d x):=by
 subst sM;refine abW (mods:=d::srcs) (M:=srcs) h (by have:=h.nle;simp only [a_,not_or];exact ⟨by omega,qx⟩) hw (fun r q hr => ?_) aoX oG (fun r hr => ?_) (fun r hr => ?_) (fun r hr => ?_) (fun t nH => ?_) (fun t lT => ?_)
 ·simp at hr;simp [tY,hr]
 ·simp at hr;simp [upd,hr]
 ·simp at hr;simp [upd,hr]
 ·simp at hr;simp [upd,hr]
 ·by_cases fE:t=d
  ·subst fE;simpa [upd] using ht
  ·simp [fE] at nH;simp [upd,fE,nH,TR]
 ·have aZ:t≠d:=by omega
  simp only [upd,aZ,if_false];split
  ·rfl
  ·simp [h.out t lT,TT.kill]
theorem aAv (h:R ac κ0 w0 κ w N tg sv tm) {d t:Nat} (hd:d<N) (lT:t<N) {ag:Bool} {cs:aa CT} (ht:tg t = .val ag cs) (hm:CT.mens [t] cs=false) {as:aa A} (hs:sv t = .v as []) :
  R ac κ0 w0 (aX κ (tY [t] d fun _ k=>some [k]) none) w N (upd (fun u=>if u∈[t] then .dead else (tg u).kill [d,t] [t]) d (.val ag cs)) (upd sv d (.v as [])) (upd tm d (tm t)):=by
 refine Dk h hd (by have:=h.nle;simp;omega) (Grows.refl w) (fun _ _ h=>by cases h) rfl ?_;have h1:=h.tr t;rw [ht] at h1;simp only [TR,bD] at h1 ⊢;obtain ⟨as',vs,g1,g2,g3,g4,g5⟩:=h1;rw [hs] at g1;cases g1;exact ⟨as,vs,rfl,g2,g3,g4,wU (Grows.refl w) (fun _ _ h=>by cases h) h.col ⟨g5,g3,.inl (by simp),hm⟩ (fun k _ _=>by simp) (fun i _=>by simp)⟩
theorem azg (h:R ac κ0 w0 κ w N tg sv tm) {d t:Nat} (hd:d<N) (lT:t<N) {ws:aa (Bool × Nat)} {cs:aa CT} (ht:tg t = .tup ws cs) (hm:CT.mens [t] cs=false) {as:aa A} (hs:sv t = .v as []) :
  R ac κ0 w0 (aX κ (tY [t] d fun _ k=>some [k]) none) w N (upd (fun u=>if u∈[t] then .dead else (tg u).kill [d,t] [t]) d (.tup ws cs)) (upd sv d (.v as [])) (upd tm d (tm t)):=by
 refine Dk h hd (by have:=h.nle;simp;omega) (Grows.refl w) (fun _ _ h=>by cases h) rfl ?_;have h1:=h.tr t;rw [ht] at h1;simp only [TR,bD] at h1 ⊢;obtain ⟨as',xs,vs,g1,g2,g3,g4,g5⟩:=h1;rw [hs] at g1;cases g1;exact ⟨as,xs,vs,rfl,g2,g3,g4,wU (Grows.refl w) (fun _ _ h=>by cases h) h.col ⟨g5,g4,.inl (by simp),hm⟩ (fun k _ _=>by simp) (fun i _=>by simp)⟩
theorem aDv (h:R ac κ0 w0 κ w N tg sv tm) {d t:Nat} (hd:d<N) {srcs:aa Nat} (qx:FB∉srcs) {cs:aa CT} {vs:aa aj} {as:aa A} (hp:Part κ w srcs t cs vs as) (BR:rT ac cs fun k=>vs.getD k undef)
  {cells:Array aj} (jG:cells.toList=vs) (ty:TypeId) :
  R ac κ0 w0 (aX κ (tY srcs d fun _ k=>some [k]) (some (w.heap.size,(d,[])))) (fK w cells ty) N (upd (fun u=>if u∈srcs then .dead else (tg u).kill (d::srcs) srcs) d (.box cs))
   (upd sv d (.v as [])) (upd tm d (.pointer (some ⟨w.heap.size,0,none⟩))):=by
 have dH:cells.size=cs.length:=by rw [<-hp.len,<-jG];simp
 refine Dk h hd qx (um w cells ty) (fun b p h=>by cases h;simp [fK]) rfl ?_;simp only [TR,bD];have hcd:∀i,cellD (fK w cells ty) w.heap.size i=vs.getD i undef:=fun i=>by rw [H6,jG]
 refine ⟨as,w.heap.size,rfl,rfl,by simp [fK],by simp [aX],NT w cells ty 0 _ (by omega),?_,?_⟩
 ·intro k j c e hk;rw [hcd];exact BR k j c e hk
 ·exact wU (um w cells ty) (fun b p h=>by cases h;exact eY _) h.col hp (fun k _ _=>by simp) (fun i _=>by rw [dG];exact hcd i)
end
end Go.Fw
namespace Go.Fw
theorem Yb {κ:aP} {w:aB} {p:Pl} {C cs:aa CT} {V vs:aa aj} {As as:aa A} {off:Nat} (h:aC κ w C p 0 (fun k=>V.getD k undef) As) (hV:V.length=C.length)
  (h':aC κ w cs p off (fun k=>vs.getD (k-off) undef) as) (hl:vs.length=cs.length) (ho:off+cs.length<=C.length) :
  aC κ w (splice C off cs) p 0 (fun k=>(splice V off vs).getD k undef) (splice As off as):=by
 have hA:=dE h;have ha:=dE h';unfold splice;have h1:=mR off h;have h3:=mQ (off+cs.length) h;refine Ct (mO (fun i _ hi => ?_) h1) (Ct (mO (get:=fun k=>vs.getD (k-off) undef) (fun i h2 hi => ?_) ?_) (mO (get:=fun k=>V.getD k undef) (fun i h2 hi => ?_) ?_))
 ·simp at hi;simp only [dw];rw [rQ (by simp;omega),qV (by omega)]
 ·simp at h2 hi;simp only [dw];rw [uZ (by simp;omega),rQ (by simp;omega)];congr 2;simp;omega
 ·rw [show 0+(List.take off C).length=off from by simp;omega];exact h'
 ·simp at h2 hi;simp only [dw];rw [uZ (by simp;omega),uZ (by simp;omega),pQ];congr 2;simp;omega
 ·rw [show 0+(List.take off C).length+cs.length=0+(off+cs.length) from by simp;omega,ha];exact h3
def ZR:aa CT->aa aj->aa A->Prop
 | [],[],[]=>True
 | .d::cs,x::vs,.v y::as=>x=y/\sc y=true/\ZR cs vs as
 | .sl _ _::cs,x::vs,.s []::as=>x = .slice none 0 0/\ZR cs vs as
 | _,_,_=>False
theorem Jl {κ:aP} {w:aB} {p:Pl}:∀{cs:aa CT} {vs:aa aj} {as:aa A} {j:Nat} {get:Nat->aj},ZR cs vs as->(∀i,i<cs.length->get (j+i)=vs.getD i undef)->aC κ w cs p j get as
 | [],[],[],_,_,_,_=>by simp [aC]
 | .d::cs,x::vs,.v y::as,j,get,h,hg=>by
  simp only [ZR] at h;simp only [aC,RC];refine ⟨⟨?_,h.2.1⟩,Jl h.2.2 fun i hi => ?_⟩
  ·have:=hg 0 (by simp);simp at this;rw [this];exact h.1
  ·have:=hg (i+1) (by simpa using hi);rw [show j+1+i=j+(i+1) from by omega];simpa using this
 | .sl m e::cs,x::vs,.s []::as,j,get,h,hg=>by
  simp only [ZR] at h;simp only [aC];refine ⟨?_,Jl h.2 fun i hi => ?_⟩
  ·have:=hg 0 (by simp);simp at this;rw [this,h.1];cases m with
   | dead=>simp [RC]
   | own k=>simp only [RC];exact ⟨none,0,by simp,by simp,.inl ⟨rfl,rfl⟩⟩
   | ro S=>simp only [RC];exact ⟨none,0,by simp,by simp,.inl trivial⟩
  ·have:=hg (i+1) (by simpa using hi);rw [show j+1+i=j+(i+1) from by omega];simpa using this
 | [],[],_::_,_,_,h,_=>by simp [ZR] at h
 | [],_::_,_,_,_,h,_=>by simp [ZR] at h
 | .d::_,[],_,_,_,h,_=>by simp [ZR] at h
 | .d::_,_::_,[],_,_,h,_=>by simp [ZR] at h
 | .d::_,_::_,.s _::_,_,_,h,_=>by simp [ZR] at h
 | .sl _ _::_,[],_,_,_,h,_=>by simp [ZR] at h
 | .sl _ _::_,_::_,[],_,_,h,_=>by simp [ZR] at h
 | .sl _ _::_,_::_,.v _::_,_,_,h,_=>by simp [ZR] at h
 | .sl _ _::_,_::_,.s (_::_)::_,_,_,h,_=>by simp [ZR] at h
theorem Dx:∀{cs:aa CT} {vs:aa aj} {as:aa A},ZR cs vs as->vs.length=cs.length
 | [],[],[],_=>rfl
 | .d::cs,x::vs,.v y::as,h=>by simp only [ZR] at h;simp [Dx h.2.2]
 | .sl m e::cs,x::vs,.s []::as,h=>by simp only [ZR] at h;simp [Dx h.2]
 | [],[],_::_,h=>by simp [ZR] at h
 | [],_::_,_,h=>by simp [ZR] at h
 | .d::_,[],_,h=>by simp [ZR] at h
 | .d::_,_::_,[],h=>by simp [ZR] at h
 | .d::_,_::_,.s _::_,h=>by simp [ZR] at h
 | .sl _ _::_,[],_,h=>by simp [ZR] at h
 | .sl _ _::_,_::_,[],h=>by simp [ZR] at h
 | .sl _ _::_,_::_,.v _::_,h=>by simp [ZR] at h
 | .sl _ _::_,_::_,.s (_::_)::_,h=>by simp [ZR] at h
def gY (cs:aa CT):Bool:=cs.all fun c=>match c with
 | .sl (.own (some _)) _=>false
 | _=>true
theorem gu {ac:Nat->Nat->aj} {cs:aa CT} {get:Nat->aj} (h:gY cs=true):rT ac cs get:=by
 intro k j c e hk;have:=bX.1 h _ (eZ hk);simp at this
structure Pt where
 off:Nat
 t:Nat
 cs:List CT
 vs:List Value
 as:List A
def ji {α:Type} (sel:Pt->aa α):aa α->aa Pt->aa α
 | l,[]=>l
 | l,p::ps=>ji sel (splice l p.off (sel p)) ps
def aoY (n:Nat) (ps:aa Pt):Prop:=∀p,p∈ps->p.off+p.cs.length<=n
theorem adg {κ:aP} {w:aB} {pl:Pl}:∀{ps:aa Pt} {C:aa CT} {V:aa aj} {As:aa A},aC κ w C pl 0 (fun k=>V.getD k undef) As->V.length=C.length->aoY C.length ps ->
  (∀p,p∈ps->aC κ w p.cs pl p.off (fun k=>p.vs.getD (k-p.off) undef) p.as/\p.vs.length=p.cs.length) ->
  aC κ w (ji Pt.cs C ps) pl 0 (fun k=>(ji Pt.vs V ps).getD k undef) (ji Pt.as As ps)/\(ji Pt.vs V ps).length=(ji Pt.cs C ps).length
 | [],C,V,As,h,hV,_,_=>⟨h,hV⟩
 | p::ps,C,V,As,h,hV,hf,hp=>by
  obtain ⟨h1,h2⟩:=hp p (by simp);have h3:=hf p (by simp);simp only [ji];have hC:(splice C p.off p.cs).length=C.length:=lI h3;refine adg (Yb h hV h1 h2 h3) ?_ (fun q hq=>by rw [hC];exact hf q (by simp [hq])) fun q hq=>hp q (by simp [hq])
  rw [hC,lI (by omega),hV]
section
variable {ac:Nat->Nat->aj} {κ0 κ:aP} {w0 w w':aB} {N:Nat} {tg:Nat->TT} {sv:Nat->AV} {tm:Nat->aj}
def ptF (Q:Nat->Nat->aa Nat) (ps:aa Pt) (t k:Nat):ah (aa Nat):=(ps.find? fun p=>p.t == t).map fun p=>Q p.off k
def axo (srcs:aa Nat) (ps:aa Pt):Prop:=∀p,p∈ps->p.t∈srcs->ps.find? (fun q=>q.t == p.t)=some p
theorem azh (h:R ac κ0 w0 κ w N tg sv tm) {d:Nat} (hd:d<N) {srcs:aa Nat} (qx:FB∉srcs) {Z:aa CT} {ZV:aa aj} {ZA:aa A} (hz:ZR Z ZV ZA) {ps:aa Pt}
  (hp:∀p,p∈ps->Part κ w srcs p.t p.cs p.vs p.as) (ho:axo srcs ps) (hf:aoY Z.length ps) (BR:gY (ji Pt.cs Z ps)=true) :
  R ac κ0 w0 (aX κ (tY srcs d (ptF (fun o k=>[o+k]) ps)) none) w N (upd (fun u=>if u∈srcs then .dead else (tg u).kill (d::srcs) srcs) d (.val true (ji Pt.cs Z ps)))
   (upd sv d (.v (ji Pt.as ZA ps) [])) (upd tm d (.agg (ji Pt.vs ZV ps).toArray)):=by
 refine Dk h hd qx (Grows.refl w) (fun b p h=>by cases h) rfl ?_;simp only [TR,bD];have cZ:=adg (κ:=aX κ (tY srcs d (ptF (fun o k=>[o+k]) ps)) none) (w:=w) (pl:=(d,[])) (ps:=ps) (C:=Z) (V:=ZV) (As:=ZA) (Jl hz fun i _=>by simp) (Dx hz) hf (fun p hpp=>
  ⟨wU (Grows.refl w) (fun _ _ h=>by cases h) h.col (hp p hpp) (fun k hk ht=>by simp [ptF,ho p hpp ht]) (fun i _=>by simp),(hp p hpp).len⟩)
 exact ⟨_,_,rfl,rfl,cZ.2,gu BR,cZ.1⟩
theorem agS (h:R ac κ0 w0 κ w N tg sv tm) {d:Nat} (hd:d<N) {srcs:aa Nat} (qx:FB∉srcs) {f:Nat->Nat->ah (aa Nat)} {e:aa CT} {xs:aa (aa A)} {cells:Array aj} {ty:TypeId} {cap:Nat}
  (aw4:xs.length<=cap) (dH:cap*e.length<=cells.size)
  (cZ:∀(κ':aP) (w':aB),κ'=aX κ (tY srcs d f) (some (w.heap.size,(d,[0])))->w'=fK w cells ty->dC κ' w' e (d,[0]) 0 (fun k=>cells.toList.getD k undef) xs) :
  R ac κ0 w0 (aX κ (tY srcs d f) (some (w.heap.size,(d,[0])))) (fK w cells ty) N (upd (fun u=>if u∈srcs then .dead else (tg u).kill (d::srcs) srcs) d (.val false [.sl (.own none) e]))
   (upd sv d (.v [.s xs] [])) (upd tm d (.slice (some ⟨w.heap.size,0,none⟩) xs.length cap)):=by
 refine Dk h hd qx (um w cells ty) (fun b p h=>by cases h;simp [fK]) rfl ?_;simp only [TR,bD];refine ⟨_,[.slice (some ⟨w.heap.size,0,none⟩) xs.length cap],rfl,rfl,rfl,?_,?_⟩
 ·intro k j c e hk;cases k<;>simp at hk
 ·simp only [aC,RC];refine ⟨⟨_,cap,by simp,aw4,.inr ⟨w.heap.size,0,rfl,by simp [fK],by simp [aX,Pl.at],NT w cells ty 0 _ (by omega),?_⟩⟩,trivial⟩;have:=cZ _ _ rfl rfl;simp only [dG,H6];simpa [Pl.at] using this
end
end Go.Fw
namespace Go.Fw
structure Jm (κ:aP) (w:World) (tg:Nat->TT) (tm:Nat->Value) (r:Nat) (sk:Sk) (is S:List Nat) (B O:Nat):Prop where
 addr:iF w (rg w (tg r) (tm r)) (rb (tg r) (tm r)) sk is=some (B,O)
 po:PO κ w S (rg w (tg r) (tm r)) sk is
 root:∀b,rb (tg r) (tm r)=some b->κ b=some (r,[])
def TT.cts:TT->ah (aa CT)
 | .val _ cs=>some cs
 | .box cs=>some cs
 | _=>none
section
variable {ac:Nat->Nat->aj} {κ0 κ:aP} {w0 w w':aB} {N:Nat} {tg:Nat->TT} {sv:Nat->AV} {tm:Nat->aj}
theorem R.pla_ptr (h:R ac κ0 w0 κ w N tg sv tm) {t r:Nat} {sk:Sk} {off:Nat} {S is:aa Nat} (ht:tg t = .ptr r sk off S) (hs:sv t = .p is) :
  ∃B O,Jm κ w tg tm r sk is S B O/\tm t = .pointer (some ⟨B,O+off,none⟩):=by
 have h1:=h.tr t;rw [ht] at h1;simp only [TR] at h1;obtain ⟨is',B,O,g1,g2,g3,g4,g5⟩:=h1;rw [hs] at g1;cases g1;exact ⟨B,O,⟨g2,g3,g4⟩,g5⟩
theorem R.pla_box (h:R ac κ0 w0 κ w N tg sv tm) {t:Nat} {cs:aa CT} (ht:tg t = .box cs) :
  ∃B,Jm κ w tg tm t [] [] [t] B 0/\tm t = .pointer (some ⟨B,0+0,none⟩):=by
 have h1:=h.tr t;rw [ht] at h1;simp only [TR] at h1;obtain ⟨as,b,g1,g2,g3,g4,g5,g6,g7⟩:=h1;refine ⟨b,⟨by simp [iF,wk,rb,ht,g2],by simp [PO],fun b' cO => ?_⟩,g2⟩;simp [rb,ht,g2] at cO;subst cO;exact g4
theorem R.root (h:R ac κ0 w0 κ w N tg sv tm) {r:Nat} {cs:aa CT} (ht:(tg r).cts=some cs) {ra:aa A} (hs:sv r = .v ra []) :
  aC κ w cs (r,[]) 0 (rg w (tg r) (tm r)) ra:=by
 have h1:=h.tr r;cases hT:tg r with
 | val ag cs'=>
  rw [hT] at h1 ht;simp only [TT.cts,aO] at ht;subst ht;simp only [TR] at h1;obtain ⟨as,vs,g1,g2,g3,g4,g5⟩:=h1;rw [hs] at g1;cases g1;have:rg w (.val ag cs') (tm r)=fun k=>vs.getD k undef:=by funext k;simp [rg,g2]
  rw [this];exact g5
 | box cs'=>
  rw [hT] at h1 ht;simp only [TT.cts,aO] at ht;subst ht;simp only [TR] at h1;obtain ⟨as,b,g1,g2,g3,g4,g5,g6,g7⟩:=h1;rw [hs] at g1;cases g1;have:rg w (.box cs') (tm r)=cellD w b:=by funext k;simp [rg,g2]
  rw [this];exact g7
 | dead=>rw [hT] at ht;simp [TT.cts] at ht
 | alias=>rw [hT] at ht;simp [TT.cts] at ht
 | ptr=>rw [hT] at ht;simp [TT.cts] at ht
 | tup=>rw [hT] at ht;simp [TT.cts] at ht
theorem R.row (h:R ac κ0 w0 κ w N tg sv tm) {r:Nat} {cs e:aa CT} {sk:Sk} {is S:aa Nat} {B O:Nat} (ht:(tg r).cts=some cs) {ra row:aa A} (hs:sv r = .v ra [])
  (hp:Jm κ w tg tm r sk is S B O) (he:iC false cs sk=some e) (hl:b_ ra sk is=some row) :
  ∃o p j,O=o+j/\Rdb w B O (O+e.length)/\aC κ w e (r,p) j (fun k=>cellD w B (o+k)) row:=by
 have h0:=h.root ht hs;cases sk with
 | nil=>
  cases is with
  | cons=>simp [b_] at hl
  | nil=>
   simp only [b_,aO,iC] at hl he;subst hl;subst he;have ha:=hp.addr;simp only [iF,wk,dh] at ha;obtain ⟨b,hb,hbo⟩:=ha;simp only [di] at hbo;obtain ⟨rfl,rfl⟩:=hbo;cases hT:tg r with
   | box cs'=>
    have h1:=h.tr r;rw [hT] at h1 ht;simp only [TT.cts,aO] at ht;subst ht;simp only [TR] at h1;obtain ⟨as,b',g1,g2,g3,g4,g5,g6,g7⟩:=h1;rw [hs] at g1;cases g1;simp [rb,hT,g2] at hb;subst hb;refine ⟨0,[],0,rfl,by simpa using g5.rdb,?_⟩;simpa using g7
   | _=>rw [hT] at hb;simp [rb] at hb
 | cons s sk=>
  obtain ⟨b,o,g1,g2,g3⟩:=arX (bo:=(rb (tg r) (tm r)).map fun b=>(b,0)) (by simp) h0 he hl;have ha:=hp.addr;simp only [iF] at ha;simp only [dG] at g1;rw [ha] at g1;simp only [aO,di] at g1;obtain ⟨rfl,rfl⟩:=g1;exact ⟨o,_,_,rfl,g2,g3⟩
theorem tC {n:Nat} {f:Nat->aj} {k:Nat} (hk:k<n):((List.range n).map f).getD k undef=f k:=by
 simp [hk]
theorem NY {g:Bool} {v:aj} {n:Nat} {f:Nat->aj} (h1:g=true->v = .agg ((List.range n).map f).toArray) (h0:g=false->v=f 0/\n=1) (hs:g=false->∀vs,f 0≠.agg vs/\f 0≠.tuple vs) :
  cellsOf g v=some ((List.range n).map f):=by
 cases g with
 | true=>rw [h1 rfl];simp [cellsOf]
 | false=>
  obtain ⟨rfl,rfl⟩:=h0 rfl;have:=hs rfl;cases hf:f 0 with
  | agg vs=>exact absurd hf (this vs).1
  | tuple vs=>exact absurd hf (this vs).2
  | _=>simp [cellsOf,hf]
theorem Jn {κ:aP} {w:aB} {c:CT} {p:Pl} {x:aj} {a:A} (hl:c.live=true) (h:RC κ w c p x a):rU x=true:=by
 cases c with
 | d=>
  cases a with
  | v y=>simp only [RC] at h;obtain ⟨rfl,hs⟩:=h;cases x<;>simp_all [sc,rU]
  | s xs=>simp [RC] at h
 | sl m e=>
  cases m with
  | dead=>simp [CT.live] at hl
  | own k=>
   cases a with
   | v y=>simp [RC] at h
   | s xs=>simp only [RC] at h;obtain ⟨_,_,rfl,_⟩:=h;simp [rU]
  | ro S=>
   cases a with
   | v y=>simp [RC] at h
   | s xs=>simp only [RC] at h;obtain ⟨_,_,rfl,_⟩:=h;simp [rU]
theorem R3 {x:aj} (h:rU x=true):∀vs,x≠.agg vs/\x≠.tuple vs:=by
 intro vs;constructor<;>(rintro rfl;simp [rU] at h)
theorem aAx (h:R ac κ0 w0 κ w N tg sv tm) {d r:Nat} (hd:d<N) {cs e:aa CT} {sk:Sk} {is S:aa Nat} {B O off n:Nat} (ht:(tg r).cts=some cs) {ra row:aa A} (hs:sv r = .v ra [])
  (hp:Jm κ w tg tm r sk is S B O) (he:iC false cs sk=some e) (hl:b_ ra sk is=some row) (hn:off+n<=e.length) (arz:CT.nowns ((e.drop off).take n)=true) (jo:gY ((e.drop off).take n)=true)
  {g:Bool} {v:aj} (h1:g=true->v = .agg ((List.range n).map fun k=>cellD w B (O+off+k)).toArray) (h0:g=false->v=cellD w B (O+off)/\n=1) (MP:CT.lives ((e.drop off).take n)=true) :
  R ac κ0 w0 (aX κ (iT d) none) w N (kG tg d (.val g ((e.drop off).take n))) (upd sv d (.v ((row.drop off).take n) [])) (upd tm d v):=by
 obtain ⟨o,p,j,rfl,hr,cZ⟩:=h.row ht hs hp he hl;have gT:=mR n (mQ off cZ);have bP:((e.drop off).take n).length=n:=by simp;omega
 have z8:∀i,i<((e.drop off).take n).length->((List.range n).map fun k=>cellD w B (o+j+off+k)).getD (0+i) undef=cellD w B (o+(j+off+i)):=by
  intro i hi;rw [bP] at hi;rw [dG,tC hi];congr 1;omega
 refine nT h hd (Grows.refl w) (fun _ _ h=>by cases h) ?_;simp only [TR,bD];refine ⟨_,(List.range n).map fun k=>cellD w B (o+j+off+k),rfl,?_,by simp [bP],gu jo,?_⟩
 ·refine NY h1 h0 fun hg => ?_
  have hn1:=(h0 hg).2;have:=gW (k:=0) gT (aT (by omega)) (aT (by rw [dE gT];omega));have hf:=Jn (rV MP (aT (by omega))) this;have:=R3 hf;simpa [kN] using this
 ·exact jR (P:=fun _=>True) (fun S _ b hb=>mU (Grows.refl w) (fun _ _ h=>by cases h) S b hb) arz (iH (fun _=>trivial) _) (fun i hi=>z8 i hi) gT
theorem azi (h:R ac κ0 w0 κ w N tg sv tm) {d r:Nat} (hd:d<N) (Bw:r≠d) {cs e:aa CT} {sk:Sk} {is S S':aa Nat} {B O off n:Nat} (ht:(tg r).cts=some cs) {ra row:aa A} (hs:sv r = .v ra [])
  (hp:Jm κ w tg tm r sk is S B O) (he:iC false cs sk=some e) (hl:b_ ra sk is=some row) (hn:off+n<=e.length)
  {g:Bool} {v:aj} (h1:g=true->v = .agg ((List.range n).map fun k=>cellD w B (O+off+k)).toArray) (h0:g=false->v=cellD w B (O+off)/\n=1) (MP:CT.lives ((e.drop off).take n)=true)
  (hr:r∈S') (hS:∀q,q∈S->q∈S') (hS2:∀q,q∈CT.srcss ((e.drop off).take n)->q∈S') :
  R ac κ0 w0 (aX κ (iT d) none) w N (kG tg d (.alias g (CT.roizes S' ((e.drop off).take n)) r sk off S')) (upd sv d (.v ((row.drop off).take n) is)) (upd tm d v):=by
 have Ru:=hp;obtain ⟨o,p,j,hO,hrd,cZ⟩:=h.row ht hs hp he hl;subst hO;have gT:=mR n (mQ off cZ);have bP:((e.drop off).take n).length=n:=by simp;omega
 have z8:∀i,i<((e.drop off).take n).length->((List.range n).map fun k=>cellD w B (o+j+off+k)).getD (0+i) undef=cellD w B (o+(j+off+i)):=by
  intro i hi;rw [bP] at hi;rw [dG,tC hi];congr 1;omega
 have ko:=fun S b hb=>mU (κ:=κ) (w:=w) (w':=w) (d:=d) (nb:=none) (Grows.refl w) (fun _ _ h=>by cases h) S b hb
 refine nT h hd (Grows.refl w) (fun _ _ h=>by cases h) ?_;simp only [TR,bD,kG,upd_ne _ _ _ Bw,(nR w [d] [] (tg r) (tm r)).2,show rg w ((tg r).kill [d] []) (tm r)=rg w (tg r) (tm r) from (nR w [d] [] (tg r) (tm r)).1];have hpo:PO κ w S' (rg w (tg r) (tm r)) sk is:=PO_mono hS hp.po;have aFL:PO (aX κ (iT d) none) w S' (rg w (tg r) (tm r)) sk is:=(yX (ko S') (fun k _=>rfl) hpo hp.addr).2;have g6:aC κ w (CT.roizes S' ((e.drop off).take n)) (d,[]) 0 (fun k=>((List.range n).map fun k=>cellD w B (o+j+off+k)).getD k undef) ((row.drop off).take n):=
  RX MP hr (kQ hS2) (fun i hi=>z8 i hi) gT
 have aZ:∀k,k<n->cellD w B (o+j+off+k)≠undef:=by
  intro k hk;have:=ar1 MP gT k (by rw [bP];exact hk);simpa [kN] using this
 obtain ⟨gf,hgf,hgk⟩:∃gf,fJ w (rg w (tg r) (tm r)) sk is=some gf/\∀k,k<n->gf (off+k)=cellD w B (o+j+off+k):=by
  cases sk with
  | nil=>
   cases is with
   | cons=>simp [b_] at hl
   | nil=>
    refine ⟨_,rfl,fun k hk => ?_⟩;have ha:=hp.addr;simp only [iF,wk,dh,di] at ha;obtain ⟨b,hb,rfl,h00⟩:=ha;have:o+j=0:=by omega
    rw [this,dG];cases hT:tg r with
    | box cs'=>
     rw [hT] at hb;cases hx:tm r with
     | pointer a=>
      cases a with
      | none=>rw [hx] at hb;simp [rb] at hb
      | some a=>rw [hx] at hb;simp [rb] at hb;subst hb;simp [rg]
     | _=>rw [hx] at hb;simp [rb] at hb
    | _=>rw [hT] at hb;simp [rb] at hb
  | cons s sk=>
   refine ⟨fun k=>cellD w B (o+j+k),?_,fun k _=>by simp only [kN]⟩;have ha:=hp.addr;simp only [iF] at ha;simp only [fJ];rw [wk_bo (by simp) none ha];rfl
 refine ⟨_,is,(List.range n).map fun k=>cellD w B (o+j+off+k),gf,ra,row,rfl,?_,by simp [dx,bP],wS _ _,
  jR (P:=fun _=>True) (fun S _ b hb=>ko S b hb) (oL _ _) (iH (fun _=>trivial) _) (fun _ _=>rfl) g6,hgf,aFL,fun b hb=>wT Bw (hp.root b hb) h.col,fun _=>hr,fun k hk => ?_,?_,hl,by rw [dx,bP]⟩
 ·refine NY h1 h0 fun hg => ?_
  have hn1:=(h0 hg).2;have:=gW (k:=0) gT (aT (by omega)) (aT (by rw [dE gT];omega));have hf:=Jn (rV MP (aT (by omega))) this;have:=R3 hf;simpa [kN] using this
 ·rw [dx,bP] at hk;rw [tC hk];exact ⟨hgk k hk,aZ k hk⟩
 ·exact hs
where
 PO_mono {κ:aP} {w:World} {S S':List Nat} (hS:∀q,q∈S->q∈S'):∀{sk:Sk} {is:List Nat} {g:Nat->Value},PO κ w S g sk is->PO κ w S' g sk is
  | [],_,_,_=>by simp [PO]
  | _::_,[],_,_=>by simp [PO]
  | (c,n)::sk,i::is,g,h=>by
   simp only [PO] at h ⊢
   split
   ·rename_i a _ _ hx
    simp only [hx] at h
    exact ⟨F3 h.1 hS,PO_mono hS h.2⟩
   ·trivial
 wk_bo {w:World}:∀{sk:Sk} {is:List Nat} {g:Nat->Value} {bo:Option (Nat × Nat)} {x:Nat × Nat},sk≠[]->∀bo':Option (Nat × Nat),wk w g bo sk is=some x->wk w g bo' sk is=some x
  | [],_,_,_,_,h,_,_=>absurd rfl h
  | _::_,[],_,_,_,_,_,h=>by simp [wk] at h
  | (c,n)::sk,i::is,g,bo,x,_,bo',h=>by simp only [wk] at h ⊢;exact h
end
end Go.Fw
namespace Go.Fw
def iU (r off n d:Nat) (p:Pl):ah Pl:=
 if p.1=r then match p.2 with
  | k::q=>if off<=k/\k<off+n then some (d,(k-off)::q) else some (r,k::q)
  | []=>some (r,[])
 else if p.1=d then none else some p
def vW:CT->CT
 | .sl _ e=>.sl .dead e
 | .d=>.d
def iQ (off n:Nat):aa CT->aa CT
 | cs=>cs.zipIdx.map fun p=>if off<=p.2/\p.2<off+n then vW p.1 else p.1
theorem jk (off n:Nat) (cs:aa CT):(iQ off n cs).length=cs.length:=by simp [iQ]
theorem vX (off n:Nat) (cs:aa CT) (k:Nat):(iQ off n cs)[k]?=(cs[k]?).map fun c=>if off<=k/\k<off+n then vW c else c:=by
 simp [iQ,List.getElem?_zipIdx];cases cs[k]?<;>simp
theorem u7 {M:aa Nat}:∀{cs:aa CT} {k:Nat} {c:CT},CT.mens M cs=false->cs[k]?=some c->c.men M=false
 | c::cs,0,c',h,hc=>by simp at hc;subst hc;simp only [CT.mens,nL] at h;exact h.1
 | c::cs,k+1,c',h,hc=>by simp only [CT.mens,nL] at h;exact u7 h.2 (by simpa using hc)
 | [],_,_,_,hc=>by simp at hc
theorem ar3 {M:aa Nat} {cs:aa CT} (h:CT.mens M cs=false) (k:Nat):CT.mens M (cs.drop k)=false:=by
 induction k generalizing cs with
 | zero=>simpa using h
 | succ k ih=>cases cs with
  | nil=>simp [CT.mens]
  | cons c cs=>simp only [CT.mens,nL] at h;simpa using ih h.2
theorem ar4 {M:aa Nat} {cs:aa CT} (h:CT.mens M cs=false) (k:Nat):CT.mens M (cs.take k)=false:=by
 induction k generalizing cs with
 | zero=>simp [CT.mens]
 | succ k ih=>cases cs with
  | nil=>simp [CT.mens]
  | cons c cs=>simp only [CT.mens,nL] at h;simp only [Ab,CT.mens,nL];exact ⟨h.1,ih h.2⟩
section
variable {ac:Nat->Nat->aj} {κ0 κ:aP} {w0 w w':aB} {N:Nat} {tg:Nat->TT} {sv:Nat->AV} {tm:Nat->aj}
theorem agU {r off n d:Nat}:∀r' q p,iU r off n d (r',q)=some p->r'∉[r]->p=(r',q):=by
 intro r' q p h hr;simp at hr;unfold iU at h;simp only [hr,if_false] at h;split at h
 ·cases h
 ·cases h;rfl
theorem agV (h:R ac κ0 w0 κ w N tg sv tm) {d r:Nat} (hd:d<N) (Bw:d≠r) {off n:Nat} {cs:aa CT} {ra:aa A} {get:Nat->aj} {tag':TT}
  (fe:aC κ w cs (r,[]) 0 get ra) (hm:CT.mens [r] cs=false) (hn:off+n<=cs.length) {g:Bool} {x:aj} {vs:aa aj} (hx:cellsOf g x=some vs) (Ck:vs.length=n)
  (mJ:∀i,i<n->vs.getD i undef=get (off+i)) (BR:rT ac ((cs.drop off).take n) fun k=>vs.getD k undef)
  (hr:∀(κ':aP),κ'=aX κ (iU r off n d) none->aC κ' w (iQ off n cs) (r,[]) 0 get ra->(κ'=aX κ (iU r off n d) none) ->
   TR ac κ' w (upd (upd (fun t=>(tg t).kill [d,r] [r]) r tag') d (.val g ((cs.drop off).take n))) (upd sv d (.v ((ra.drop off).take n) [])) (upd tm d x) r tag') (Hq:r<N) :
  R ac κ0 w0 (aX κ (iU r off n d) none) w N (upd (upd (fun t=>(tg t).kill [d,r] [r]) r tag') d (.val g ((cs.drop off).take n))) (upd sv d (.v ((ra.drop off).take n) [])) (upd tm d x):=by
 have ku:∀b p,κ b=some p->aX κ (iU r off n d) none b=iU r off n d p:=fun b p hb=>rW (fun _ _ h=>by cases h) h.col hb
 have bu:∀S,(∀m,m∈[r]->m∉S)->∀b,bn κ w S b->bn (aX κ (iU r off n d) none) w S b/\Same w w b:=
  fun S hS b hb=>nU (Grows.refl w) agU (fun _ _ h=>by cases h) hS b hb
 refine abW (mods:=[d,r]) (M:=[r]) h (by have:=h.nle;simp;omega) (Grows.refl w) (fun r' q jC => ?_) agU (fun _ _ h=>by cases h) (fun t ht => ?_) (fun t ht => ?_) (fun t ht => ?_) (fun t ht => ?_) (fun t ht => ?_)
 ·simp at jC;simp [iU,jC]
 ·simp at ht;simp [upd,ht]
 ·simp at ht;simp [upd,ht]
 ·simp at ht;simp [upd,ht]
 ·simp at ht;rcases ht with rfl|rfl
  ·rw [bD];simp only [TR,bD];refine ⟨_,vs,rfl,hx,by simp [Ck];omega,BR,?_⟩;have:=fZ (f:=id) (P:=fun S=>∀m,m∈[r]->m∉S) (κ':=aX κ (iU r off n t) none) (w':=w) (p':=(t,[])) (j':=0) (get':=fun k=>vs.getD k undef) bu
    (eU (fun S hS=>hS) (ar4 (ar3 hm off) n)) (fun i hi b q hb => ?_) (fun i hi => ?_) (mR n (mQ off fe))
   ·rwa [iR] at this
   ·refine ⟨?_,Same.refl w b⟩;rw [ku b _ hb];have jB:i<n:=by simp at hi;omega
    simp only [iU,if_true,gX];rw [if_pos (by omega)];simp
   ·have jB:i<n:=by simp at hi;omega
    simp only [dG];exact mJ i jB
  ·rw [upd_ne _ _ _ (h_ Bw),bD];refine hr _ rfl ?_ rfl;refine lY (by rw [jk];exact dE fe) fun k c a hc ha => ?_
   rw [vX] at hc;cases sK:cs[k]? with
   | none=>simp [sK] at hc
   | some c0=>
    simp only [sK,dA,aO] at hc;have h0:=gW fe sK ha;split at hc
    ·subst hc;cases c0 with
     | d=>simp only [vW];cases a with
      | v y=>simp only [RC] at h0 ⊢;exact h0
      | s xs=>simp [RC] at h0
     | sl m e=>simp only [vW,RC]
    ·rename_i hk;subst hc;refine vV (yY (fun S hS=>bu S hS) (u7 hm sK)) (fun b q hb=>⟨?_,Same.refl w b⟩) h0;rw [ku b _ hb];simp only [Pl.at,dG,gX,Ko] at hb ⊢;rw [hb];simp only [iU,if_true];rw [if_neg hk]
 ·have h1:t≠d:=by omega
  have h2:t≠r:=by omega
  simp [upd,h1,h2,h.out t ht,TT.kill]
theorem ar5 (h:R ac κ0 w0 κ w N tg sv tm) {t r:Nat} (lT:t<N) (sN:r<N) (Hq:t≠r) {ag:Bool} {cs0 cs:aa CT} {off:Nat} {S:aa Nat} (ht:tg t = .alias ag cs0 r [] off S) (hr:(tg r).cts=some cs)
  (hm:CT.mens [r] cs=false) (hn:off+cs0.length<=cs.length) {as is} (hs:sv t = .v as is) {tag':TT} (arA:tag'=match tg r with | .val g _=>.val g (iQ off cs0.length cs) | .box _=>.box (iQ off cs0.length cs)|x=>x) :
  R ac κ0 w0 (aX κ (iU r off cs0.length t) none) w N (upd (upd (fun u=>(tg u).kill [t,r] [r]) r tag') t (.val ag ((cs.drop off).take cs0.length))) (upd sv t (.v as [])) tm:=by
 have h1:=h.tr t;rw [ht] at h1;simp only [TR] at h1;obtain ⟨as',is',vs,g,ra,row,g1,g2,g3,gl,g4,g5,g6,g7,g8,g9,g10,g11,g12⟩:=h1;rw [hs] at g1;cases g1;have pJ:is=[]:=by
  cases is with
  | nil=>rfl
  | cons=>simp [fJ] at g5
 subst pJ;simp only [fJ,aO] at g5;subst g5;simp only [b_,aO] at g11;subst g11;have fe:=h.root hr g10;have hk:=h.tr r;have qp:upd tm t (tm t)=tm:=by funext u;simp only [upd];split<;>simp_all
 rw [<-qp,g12];refine agV h lT Hq fe hm hn g2 g3 (fun i hi=>(g9 i hi).1.symm) ?_ (fun κ' hκ AC _ => ?_) sN
 ·-- pins
  intro k j c e hc;have om:k<cs0.length:=by
   have:=(bf hc).1;simp at this;omega
  show vs.getD k undef=ac j c;rw [<-(g9 k om).1];have je:cs[off+k]?=some (.sl (.own (some (j,c))) e):=by
   rw [qV om,pQ] at hc;exact hc
  cases hT:tg r with
  | val gg cs'=>
   rw [hT] at hk hr;simp only [TT.cts,aO] at hr;subst hr;simp only [TR] at hk;obtain ⟨as2,vs2,k1,k2,k3,k4,k5⟩:=hk;have:=k4 (off+k) j c e je;simp [rg,k2] at this ⊢;exact this
  | box cs'=>
   rw [hT] at hk hr;simp only [TT.cts,aO] at hr;subst hr;simp only [TR] at hk;obtain ⟨as2,b,k1,k2,k3,k4,k5,k6,k7⟩:=hk;have:=k6 (off+k) j c e je;simp [rg,k2] at this ⊢;exact this
  | dead=>rw [hT] at hr;simp [TT.cts] at hr
  | alias=>rw [hT] at hr;simp [TT.cts] at hr
  | ptr=>rw [hT] at hr;simp [TT.cts] at hr
  | tup=>rw [hT] at hr;simp [TT.cts] at hr
 ·subst arA;have hpd:∀get,rT ac cs get->rT ac (iQ off cs0.length cs) get:=by
   intro get hp k j c e hc;rw [vX] at hc;cases sK:cs[k]? with
   | none=>simp [sK] at hc
   | some c0=>
    simp only [sK,dA,aO] at hc;split at hc
    ·cases c0<;>simp [vW] at hc
    ·exact hp k j c e (by rw [sK,hc])
  cases hT:tg r with
  | val gg cs'=>
   rw [hT] at hk hr AC;simp only [TT.cts,aO] at hr;subst hr;simp only [TR,upd_ne _ _ _ (h_ Hq)] at hk ⊢;obtain ⟨as2,vs2,k1,k2,k3,k4,k5⟩:=hk;rw [g10] at k1;cases k1;have:rg w (.val gg cs') (tm r)=fun k=>vs2.getD k undef:=by funext k;simp [rg,k2]
   rw [this] at AC;exact ⟨_,vs2,g10,k2,by rw [jk];exact k3,hpd _ k4,AC⟩
  | box cs'=>
   rw [hT] at hk hr AC;simp only [TT.cts,aO] at hr;subst hr;simp only [TR,upd_ne _ _ _ (h_ Hq)] at hk ⊢;obtain ⟨as2,b,k1,k2,k3,k4,k5,k6,k7⟩:=hk;rw [g10] at k1;cases k1;have:rg w (.box cs') (tm r)=cellD w b:=by funext k;simp [rg,k2]
   rw [this] at AC;refine ⟨_,b,g10,k2,k3,?_,by rw [jk];exact k5,hpd _ k6,AC⟩;rw [hκ,rW (fun _ _ h=>by cases h) h.col k4];simp [iU]
  | dead=>rw [hT] at hr;simp [TT.cts] at hr
  | alias=>rw [hT] at hr;simp [TT.cts] at hr
  | ptr=>rw [hT] at hr;simp [TT.cts] at hr
  | tup=>rw [hT] at hr;simp [TT.cts] at hr
end
end Go.Fw
namespace Go.Fw
section
variable {ac:Nat->Nat->aj} {κ0 κ:aP} {w0 w w':aB} {N:Nat} {tg:Nat->TT} {sv:Nat->AV} {tm:Nat->aj}
theorem ar6 (h:R ac κ0 w0 κ w N tg sv tm) {d t:Nat} (hd:d<N) (lT:t<N) (yQ:d≠t) {ws:aa (Bool × Nat)} {cs:aa CT} (ht:tg t = .tup ws cs) (hm:CT.mens [t] cs=false)
  {off n:Nat} (hn:off+n<=cs.length) {g:Bool} {x:aj} {as:aa A} (hs:sv t = .v as []) (jo:gY ((cs.drop off).take n)=true)
  (hx:∀xs vs,tm t = .tuple xs->uO ws xs.toList=some vs->cellsOf g x=some ((vs.drop off).take n)) :
  R ac κ0 w0 (aX κ (iU t off n d) none) w N (upd (upd (fun u=>(tg u).kill [d,t] [t]) t (.tup ws (iQ off n cs))) d (.val g ((cs.drop off).take n))) (upd sv d (.v ((as.drop off).take n) [])) (upd tm d x):=by
 have h1:=h.tr t;rw [ht] at h1;simp only [TR] at h1;obtain ⟨as',xs,vs,g1,g2,g3,g4,g5⟩:=h1;rw [hs] at g1;cases g1;have mJ:∀i,i<n->((vs.drop off).take n).getD i undef=vs.getD (off+i) undef:=by
  intro i hi;simp only [dw];rw [qV hi,pQ]
 refine agV h hd yQ g5 hm hn (hx xs vs g2 g3) (by simp;omega) mJ (gu jo) (fun κ' hκ AC _ => ?_) lT;simp only [TR,upd_ne _ _ _ (h_ yQ)];exact ⟨_,xs,vs,hs,g2,g3,by rw [jk];exact g4,AC⟩
theorem agW (h:R ac κ0 w0 κ w N tg sv tm) {d r:Nat} (hd:d<N) (hr:r≠d) {sk:Sk} {is S:aa Nat} {B O off:Nat} (hp:Jm κ w tg tm r sk is S B O) :
  R ac κ0 w0 (aX κ (iT d) none) w N (kG tg d (.ptr r sk off S)) (upd sv d (.p is)) (upd tm d (.pointer (some ⟨B,O+off,none⟩))):=by
 refine nT h hd (Grows.refl w) (fun _ _ h=>by cases h) ?_;have ko:=fun S b hb=>mU (κ:=κ) (w:=w) (w':=w) (d:=d) (nb:=none) (Grows.refl w) (fun _ _ h=>by cases h) S b hb
 simp only [TR,bD,kG,upd_ne _ _ _ hr,(nR w [d] [] (tg r) (tm r)).2,show rg w ((tg r).kill [d] []) (tm r)=rg w (tg r) (tm r) from (nR w [d] [] (tg r) (tm r)).1];exact ⟨is,B,O,rfl,hp.addr,(yX (ko S) (fun k _=>rfl) hp.po hp.addr).2,fun b hb=>wT hr (hp.root b hb) h.col,rfl⟩
theorem R4 {w:aB} {c n i b o len cap:Nat}:∀{sk:Sk} {is:aa Nat} {g gf:Nat->aj} {bo:ah (Nat × Nat)},fJ w g sk is=some gf->gf c = .slice (some ⟨b,o,none⟩) len cap->i<len ->
  wk w g bo (sk++[(c,n)]) (is++[i])=some (b,o+i*n)
 | [],[],g,gf,bo,h,hx,hi=>by
  simp only [fJ,aO] at h;subst h;simp [wk,hx,hi]
 | [],_::_,_,_,_,h,_,_=>by simp [fJ] at h
 | (c0,n0)::sk,[],_,_,_,h,_,_=>by simp [fJ,wk] at h
 | (c0,n0)::sk,i0::is,g,gf,bo,h,hx,hi=>by
  simp only [fJ,dh,wk] at h;obtain ⟨BO,h,rfl⟩:=h;split at h;case h_2=>simp at h
  case h_1 b0 o0 ajJ cap0 hx0=>
  split at h;case isFalse=>simp at h
  case isTrue hi0=>
  simp only [ny,wk,hx0,if_pos hi0];cases sk with
  | nil=>
   cases is with
   | cons=>simp [wk] at h
   | nil=>
    simp only [wk,aO] at h;subst h;exact R4 (sk:=[]) (is:=[]) (gf:=fun k=>cellD w b0 (o0+i0*n0+k)) rfl hx hi
  | cons s sk=>
   refine R4 (sk:=s::sk) (gf:=fun k=>cellD w BO.1 (BO.2+k)) ?_ hx hi;simp only [fJ];rw [show wk w (fun k=>cellD w b0 (o0+i0*n0+k)) none (s::sk) is=some BO from ?_]
   ·rfl
   ·rw [<-h];cases is with
    | nil=>simp [wk]
    | cons i1 is=>obtain ⟨c1,n1⟩:=s;simp [wk]
theorem R5 {κ:aP} {w:aB} {S:aa Nat} {c n i:Nat}:∀{sk:Sk} {is:aa Nat} {g gf:Nat->aj},fJ w g sk is=some gf->PO κ w S g sk is->(∀a len cap,gf c = .slice (some a) len cap->bn κ w S a.block) ->
  PO κ w S g (sk++[(c,n)]) (is++[i])
 | [],[],g,gf,h,_,hx=>by
  simp only [fJ,aO] at h;subst h;simp only [gX,PO];split
  ·rename_i a len cap ha;exact ⟨hx a len cap ha,trivial⟩
  ·trivial
 | [],_::_,_,_,h,_,_=>by simp [fJ] at h
 | (c0,n0)::sk,[],_,_,h,_,_=>by simp [fJ,wk] at h
 | (c0,n0)::sk,i0::is,g,gf,h,hp,hx=>by
  simp only [fJ,dh,wk] at h;obtain ⟨BO,h,rfl⟩:=h;split at h;case h_2=>simp at h
  case h_1 b0 o0 ajJ cap0 hx0=>
  split at h;case isFalse=>simp at h
  case isTrue hi0=>
  simp only [PO,hx0] at hp;simp only [ny,PO,hx0];refine ⟨hp.1,?_⟩;cases sk with
  | nil=>
   cases is with
   | cons=>simp [wk] at h
   | nil=>
    simp only [wk,aO] at h;subst h;exact R5 (sk:=[]) (is:=[]) (gf:=fun k=>cellD w b0 (o0+i0*n0+k)) rfl (by simp [PO]) hx
  | cons s sk=>
   refine R5 (sk:=s::sk) (gf:=fun k=>cellD w BO.1 (BO.2+k)) ?_ hp.2 hx;simp only [fJ];rw [show wk w (fun k=>cellD w b0 (o0+i0*n0+k)) none (s::sk) is=some BO from ?_]
   ·rfl
   ·rw [<-h];cases is with
    | nil=>simp [wk]
    | cons i1 is=>obtain ⟨c1,n1⟩:=s;simp [wk]
theorem Tf {κ:aP} {w:aB} {m:Md} {e:aa CT} {p:Pl} {x:aj} {xs:aa (aa A)} {S:aa Nat} (Hm:p.2≠[]) (hm:(∃S0,m = .ro S0/\∀r,r∈S0->r∈S)\/(∃k,m = .own k)/\p.1∈S) (h:RC κ w (.sl m e) p x (.s xs)) :
  ∃ao cap,x = .slice ao xs.length cap/\(xs≠[]->∃b o,ao=some ⟨b,o,none⟩/\bn κ w S b):=by
 rcases hm with ⟨S0,rfl,hS⟩|⟨⟨k,rfl⟩,hp⟩
 ·simp only [RC] at h;obtain ⟨ao,cap,hx,df,hc⟩:=h;refine ⟨ao,cap,hx,fun aZ => ?_⟩;rcases hc with h0|⟨b,o,rfl,hb,_,_⟩
  ·exact absurd h0 aZ
  ·exact ⟨b,o,rfl,F3 hb hS⟩
 ·simp only [RC] at h;obtain ⟨ao,cap,hx,df,hc⟩:=h;refine ⟨ao,cap,hx,fun aZ => ?_⟩;rcases hc with ⟨_,h0⟩|⟨b,o,rfl,hs,hb,_,_⟩
  ·have:xs.length=0:=by omega
   exact absurd (qW.1 this) aZ
  ·exact ⟨b,o,rfl,amn hs hb hp Hm⟩
theorem R.pla_val (h:R ac κ0 w0 κ w N tg sv tm) {t:Nat} {m:Md} {e:aa CT} (ht:tg t = .val false [.sl m e]) {S:aa Nat} (hm:(∃S0,m = .ro S0/\∀r,r∈S0->r∈S)\/(∃k,m = .own k)/\t∈S)
  {xs:aa (aa A)} (hs:sv t = .v [.s xs] []) {i:Nat} (hi:i<xs.length) (n:Nat) :
  ∃b o cap,tm t = .slice (some ⟨b,o,none⟩) xs.length cap/\Jm κ w tg tm t [(0,n)] [i] S b (o+i*n):=by
 have h1:=h.tr t;rw [ht] at h1;simp only [TR] at h1;obtain ⟨as,vs,g1,g2,g3,g4,g5⟩:=h1;rw [hs] at g1;cases g1;have mJ:vs=[tm t]:=by
  cases hx:tm t<;>rw [hx] at g2<;>simp [cellsOf] at g2<;>exact g2.symm
 subst mJ;simp only [aC] at g5;have aZ:xs≠[]:=by rintro rfl;simp at hi
 obtain ⟨ao,cap,hx,hb⟩:=Tf (S:=S) (by simp [Pl.at]) (hm.imp id fun h=>⟨h.1,h.2⟩) g5.1;obtain ⟨b,o,rfl,aV⟩:=hb aZ;simp at hx;have lF:rg w (tg t) (tm t) 0 = .slice (some ⟨b,o,none⟩) xs.length cap:=by rw [ht,hx];rfl
 refine ⟨b,o,cap,hx,⟨?_,?_,fun b' cO=>by rw [ht] at cO;simp [rb] at cO⟩⟩
 ·have:=R4 (w:=w) (c:=0) (n:=n) (i:=i) (sk:=[]) (is:=[]) (bo:=(rb (tg t) (tm t)).map fun b=>(b,0)) (g:=rg w (tg t) (tm t)) rfl lF hi;simpa [iF] using this
 ·have:=R5 (κ:=κ) (w:=w) (S:=S) (c:=0) (n:=n) (i:=i) (sk:=[]) (is:=[]) (g:=rg w (tg t) (tm t)) rfl (by simp [PO]) (fun a len cap' ha=>by rw [lF] at ha;cases ha;exact aV);simpa using this
theorem R.pla_alias (h:R ac κ0 w0 κ w N tg sv tm) {t r:Nat} {S0:aa Nat} {e:aa CT} {sk:Sk} {off:Nat} {S:aa Nat} (ht:tg t = .alias false [.sl (.ro S0) e] r sk off S) (hS:∀r,r∈S0->r∈S)
  {xs:aa (aa A)} {is:aa Nat} (hs:sv t = .v [.s xs] is) {i:Nat} (hi:i<xs.length) (n:Nat) :
  ∃b o cap,tm t = .slice (some ⟨b,o,none⟩) xs.length cap/\Jm κ w tg tm r (sk++[(off,n)]) (is++[i]) S b (o+i*n):=by
 have h1:=h.tr t;rw [ht] at h1;simp only [TR] at h1;obtain ⟨as,is',vs,g,ra,row,g1,g2,g3,gl,g4,g5,g6,g7,g8,g9,g10,g11,g12⟩:=h1;rw [hs] at g1;cases g1;have mJ:vs=[tm t]:=by
  cases hx:tm t<;>rw [hx] at g2<;>simp [cellsOf] at g2<;>exact g2.symm
 subst mJ;simp only [aC] at g4;have aZ:xs≠[]:=by rintro rfl;simp at hi
 obtain ⟨ao,cap,hx,hb⟩:=Tf (S:=S) (by simp [Pl.at]) (.inl ⟨S0,rfl,hS⟩) g4.1;obtain ⟨b,o,rfl,aV⟩:=hb aZ;simp at hx;have hg0:g off = .slice (some ⟨b,o,none⟩) xs.length cap:=by
  have:=(g9 0 (by simp)).1;simp [hx] at this;simpa using this
 refine ⟨b,o,cap,hx,⟨?_,?_,g7⟩⟩
 ·exact R4 g5 hg0 hi
 ·exact R5 g5 g6 (fun a len cap' ha=>by rw [hg0] at ha;cases ha;exact aV)
end
end Go.Fw
namespace Go.Fw
theorem nV {α:Type} {l x:aa α} {off:Nat} (h:off+x.length<=l.length) (k:Nat) :
  (splice l off x)[k]?=if k<off then l[k]? else if k<off+x.length then x[k-off]? else l[k]?:=by
 unfold splice;split
 ·rw [rQ (by simp;omega),qV (by omega)]
 ·rw [uZ (by simp;omega)];have ac8:(List.take off l).length=off:=by simp;omega
  rw [ac8];split
  ·rw [rQ (by omega)]
  ·rw [uZ (by omega),pQ];congr 1;omega
def Yc (g g':Nat->aj):Prop:=∀k a l c,g k = .slice a l c->g' k = .slice a l c
theorem axp {κ:aP} {w w':aB} {S:aa Nat} (dH:w'.heap.size=w.heap.size) (hc:∀b,Yc (cellD w b) (cellD w' b)) :
  ∀{sk:Sk} {is:aa Nat} {g g':Nat->aj} {bo:ah (Nat × Nat)} {x:Nat × Nat},Yc g g'->wk w g bo sk is=some x->wk w' g' bo sk is=some x/\(PO κ w S g sk is->PO κ w' S g' sk is)
 | [],[],_,_,_,_,_,h=>by simp only [wk,PO] at h ⊢;exact ⟨h,fun _=>trivial⟩
 | [],_::_,_,_,_,_,_,h=>by simp [wk] at h
 | _::_,[],_,_,_,_,_,h=>by simp [wk] at h
 | (c,n)::sk,i::is,g,g',bo,x,hg,h=>by
  simp only [wk] at h;split at h;case h_2=>simp at h
  case h_1 b o len cap hx=>
  split at h;case isFalse=>simp at h
  case isTrue hi=>
  have Cj:=hg c _ _ _ hx;have XK:=axp (κ:=κ) (S:=S) dH hc (g':=fun k=>cellD w' b (o+i*n+k)) (fun k a l c' hk=>hc b _ a l c' hk) h;simp only [wk,PO,hx,Cj,if_pos hi];refine ⟨XK.1,fun hp=>⟨⟨by rw [dH];exact hp.1.1,hp.1.2⟩,XK.2 hp.2⟩⟩
theorem avS {w:aB} {b o:Nat} {vs:aa aj} (hd:∀k,k<vs.length->sc (cellD w b (o+k))=true) (b':Nat):Yc (cellD w b') (cellD (bG w b o vs) b'):=by
 intro k a l c hk;unfold cellD at hk ⊢;rw [iG];split
 ·rename_i h;obtain ⟨rfl,h1,h2⟩:=h;have:=hd (k-o) (by omega);rw [show o+(k-o)=k from by omega] at this;unfold cellD at this;rw [hk] at this;simp [sc] at this
 ·exact hk
section
variable {ac:Nat->Nat->aj} {κ0 κ:aP} {w0 w w':aB} {N:Nat} {tg:Nat->TT} {sv:Nat->AV} {tm:Nat->aj}
def qL (cs:aa CT):Bool:=cs.all fun c=>match c with
 | .d=>true
 | _=>false
theorem Wj {cs:aa CT} (h:qL cs=true) {k:Nat} {c:CT} (hc:cs[k]?=some c):c = .d:=by
 have:=bX.1 h _ (eZ hc);cases c with
 | d=>rfl
 | sl m e=>simp at this
def TT.killD (r:Nat) (M:aa Nat):TT->TT
 | .ptr r' sk off S=>if r'=r then .ptr r' sk off S else (TT.ptr r' sk off S).kill [r] M
 | x=>x.kill [r] M
theorem ar7 {sk:Sk} {is p:aa Nat} {j:Nat} (hs:sk≠[]) (hi:is≠[]):(bZ p j sk is).1≠[]:=by
 have:=Kz sk is p j hs hi;intro h;rw [h] at this;simp at this
theorem AO {M:aa Nat} {own:Bool}:∀{sk:Sk} {cs e:aa CT},CT.mens M cs=false->iC own cs sk=some e->CT.mens M e=false
 | [],cs,e,h,ht=>by simp only [iC,aO] at ht;subst ht;exact h
 | (c,n)::sk,cs,e,h,ht=>by
  simp only [iC] at ht;split at ht
  ·rename_i k e0 hc;split at ht
   ·have:=u7 h hc;simp only [CT.men] at this;exact AO this ht
   ·cases ht
  ·rename_i S e0 hc;split at ht
   ·have:=u7 h hc;simp only [CT.men,nL] at this;exact AO this.2 ht
   ·cases ht
  ·cases ht
theorem avT (h:R ac κ0 w0 κ w N tg sv tm) {r:Nat} (sN:r<N) {cs e:aa CT} {sk:Sk} {is S:aa Nat} {B O off:Nat} (ht:(tg r).cts=some cs) {ra row:aa A} (hs:sv r = .v ra [])
  (hp:Jm κ w tg tm r sk is S B O) (he:iC true cs sk=some e) (hl:b_ ra sk is=some row) {ys:aa aj} (hn:off+ys.length<=e.length) (hd:qL ((e.drop off).take ys.length)=true) (hys:ys.all sc=true)
  (hm:CT.mens [r] cs=false) {M:aa Nat} (hM:M=if sk=[] then [] else [r]) :
  Wrb w B (O+off) (O+off+ys.length) /\
  R ac κ0 w0 κ (bG w B (O+off) ys) N (upd (fun t=>(tg t).killD r M) r (tg r)) (upd sv r (.v (lH ra sk is (splice row off (ys.map .v))) [])) tm:=by
 have fA:=kP ys w B (O+off);have dH:(bG w B (O+off) ys).heap.size=w.heap.size:=fA.1;have fe:=h.root ht hs
 -- where it is
 obtain ⟨P,jh,hP,hW,o,j,hO,cZ,hPj⟩:∃P,κ B=some (r,P)/\(sk=[]↔P=[])/\Wrb w B O (O+e.length)/\∃o j,O=o+j/\aC κ w e (r,P) j (fun k=>cellD w B (o+k)) row /\
   (sk≠[]->P=(bZ [] 0 sk is).1/\j=(bZ [] 0 sk is).2)/\(sk=[]->o+j=0/\e=cs/\row=ra/\is=[]/\j=0):=by
  cases sk with
  | nil=>
   cases is with
   | cons=>simp [b_] at hl
   | nil=>
    simp only [b_,aO,iC] at hl he;subst hl;subst he;have ha:=hp.addr;simp only [iF,wk,dh,di] at ha;obtain ⟨b,hb,rfl,rfl⟩:=ha;have hκ:=hp.root b hb;cases hT:tg r with
    | box cs'=>
     have h1:=h.tr r;rw [hT] at h1 ht;simp only [TT.cts,aO] at ht;subst ht;simp only [TR] at h1;obtain ⟨as,b',g1,g2,g3,g4,g5,g6,g7⟩:=h1;rw [hs] at g1;cases g1;simp [rb,hT,g2] at hb;subst hb;exact ⟨[],g4,by simp,by simpa using g5,0,0,rfl,by simpa using g7,by simp,fun _=>by simp⟩
    | _=>rw [hT] at hb;simp [rb] at hb
  | cons s sk=>
   obtain ⟨b,o,g1,g2,g3,g4⟩:=Dj (bo:=(rb (tg r) (tm r)).map fun b=>(b,0)) (by simp) fe he hl;have ha:=hp.addr;simp only [iF] at ha;simp only [dG] at g1;rw [ha] at g1;simp only [aO,di] at g1;obtain ⟨rfl,rfl⟩:=g1;have pJ:is≠[]:=by rintro rfl;cases s;simp [b_] at hl
   exact ⟨_,g2,by simp [ar7 (sk:=s::sk) (is:=is) (p:=[]) (j:=0) (by simp) pJ],g3,o,_,rfl,g4,fun _=>⟨rfl,rfl⟩,by simp⟩
 have hWn:Wrb w B (O+off) (O+off+ys.length):=hW.sub (by omega) (by omega);refine ⟨hWn,?_⟩;have aCo:∀k,k<ys.length->sc (cellD w B (O+off+k))=true:=by
  intro k hk;have hc:e[off+k]?=some .d:=by
   have h1:((e.drop off).take ys.length)[k]?=e[off+k]?:=by rw [qV hk,pQ]
   have h2:off+k<e.length:=by omega
   rw [<-h1,aT (by simp;omega)];congr 1;exact Wj hd (aT _)
  have bP:=dE cZ;have:=gW cZ hc (aT (by omega));cases ha:row[off+k]'(by omega) with
  | v y=>rw [ha] at this;simp only [RC] at this;rw [hO,show o+j+off+k=o+(j+(off+k)) from by omega,this.1];exact this.2
  | s xs=>rw [ha] at this;simp [RC] at this
 have hsl:∀b,Yc (cellD w b) (cellD (bG w B (O+off) ys) b):=fun b=>avS aCo b
 -- the new row
 have uX:aC κ (bG w B (O+off) ys) e (r,P) j (fun k=>cellD (bG w B (O+off) ys) B (o+k)) (splice row off (ys.map .v)):=by
  have bP:=dE cZ;refine lY (by rw [lI (by simp;omega)];exact bP) fun k c a hc ha => ?_
  rw [nV (by simp;omega)] at ha;have hk:=(bf hc).1;have mh:(∀i,i<ys.length->k≠off+i)->row[k]?=some a->RC κ (bG w B (O+off) ys) c (Pl.at (r,P) (j+k)) (cellD (bG w B (O+off) ys) B (o+(j+k))) a:=by
   intro aZ hak;have h0:=gW cZ hc hak;have lD:cellD (bG w B (O+off) ys) B (o+(j+k))=cellD w B (o+(j+k)):=by
    unfold cellD;rw [iG,if_neg];rintro ⟨_,h1,h2⟩;exact aZ (k-off) (by omega) (by omega)
   rw [lD];have hcm:c.men [r]=false:=by
    have:=AO hm he;exact u7 this hc
   refine vV (yY (fun S hS b hb => ?_) hcm) (fun b q hb=>⟨rfl,dF ?_⟩) h0
   ·have:b≠B:=by rintro rfl;exact hS r (by simp) (hb.2 _ _ jh).1
    exact ⟨⟨by rw [dH];exact hb.1,hb.2⟩,dF this⟩
   ·rintro rfl;rw [jh] at hb;simp [Pl.at] at hb
  by_cases h1:k<off
  ·rw [if_pos h1] at ha;exact mh (fun i _=>by omega) ha
  ·rw [if_neg h1] at ha;by_cases h2:k<off+(ys.map A.v).length
   ·rw [if_pos h2] at ha;simp at h2;simp only [kM] at ha;have hky:k-off<ys.length:=by omega
    rw [aT hky] at ha;simp only [dA,aO] at ha;subst ha;have je:c = .d:=by
     refine Wj hd (k:=k-off) ?_;rw [qV hky,pQ,show off+(k-off)=k from by omega];exact hc
    subst je;simp only [RC];have:=Ac hWn (k-off) hky;rw [show O+off+(k-off)=o+(j+k) from by omega] at this;rw [this];have aFM:=bX.1 hys _ (nM hky);exact ⟨by simp [hky],aFM⟩
   ·rw [if_neg h2] at ha;simp at h2;exact mh (fun i hi=>by omega) ha
 -- others
 have bu:∀S,(∀m,m∈M->m∉S)->∀b,bn κ w S b->bn κ (bG w B (O+off) ys) S b/\Same w (bG w B (O+off) ys) b:=by
  intro S hS b hb;have:b≠B:=by
   rintro rfl;have h2:=hb.2 _ _ jh;by_cases oF:sk=[]
   ·exact h2.2 (hP.1 oF)
   ·rw [hM,if_neg oF] at hS;exact hS r (by simp) h2.1
  exact ⟨⟨by rw [dH];exact hb.1,hb.2⟩,dF this⟩
 refine ul (mods:=[r]) (M:=M) h (by have:=h.nle;simp;omega) bu (fun b r' q jC hb=>⟨rfl,dF ?_⟩) (fun t nH => ?_) (fun t nH => ?_) (fun t _=>rfl) (fun t nH => ?_) (fun t nH => ?_) (fun b hb => ?_) ?_
 ·rintro rfl;simp at jC;rw [jh] at hb;cases hb;exact jC rfl
 ·simp at nH;simp only [upd,nH,if_false];cases hT:tg t with
  | ptr r' sk' off' S'=>
   simp only [TT.killD];by_cases hrr:r'=r
   ·subst hrr;right;simp only [if_true];refine ⟨fun x=>by simp,?_⟩;have h1:=h.tr t;rw [hT] at h1;simp only [TR,bD,upd_ne _ _ _ nH] at h1 ⊢;obtain ⟨is',B',O',g1,g2,g3,g4,g5⟩:=h1;have aFN:Yc (rg w (tg r') (tm r')) (rg (bG w B (O+off) ys) (tg r') (tm r')):=by
     intro k a l c hk;unfold rg at hk ⊢;split at hk
     ·exact hk
     ·exact hsl _ _ _ _ _ hk
     ·exact hk
    have:=axp (κ:=κ) (S:=S') dH hsl aFN (by simpa [iF] using g2);exact ⟨is',B',O',g1,by simpa [iF] using this.1,this.2 g3,g4,g5⟩
   ·simp only [hrr,if_false];exact .inl trivial
  | _=>left;simp [TT.killD]
 ·simp at nH;simp [upd,nH]
 ·simp at nH;subst nH;rw [bD];have h1:=h.tr t;cases hT:tg t with
  | val ag cs'=>
   rw [hT] at h1 ht;simp only [TT.cts,aO] at ht;subst ht;simp only [TR,bD] at h1 ⊢;obtain ⟨as,vs,g1,g2,g3,g4,g5⟩:=h1;rw [hs] at g1;cases g1;have oF:sk≠[]:=by
    rintro rfl;have ha:=hp.addr;rw [hT] at ha;cases is<;>simp [iF,rb,wk] at ha
   refine ⟨_,vs,rfl,g2,g3,g4,?_⟩;have lF:rg w (tg t) (tm t)=fun k=>vs.getD k undef:=by rw [hT];funext k;simp [rg,g2]
   have ha:=hp.addr;rw [lF] at ha fe;simp only [iF] at ha;obtain ⟨rfl,rfl⟩:=hPj.1 oF;exact Jj (bo:=(rb (tg t) (tm t)).map fun b=>(b,0)) oF fe he hl (by simpa using ha) (eU (fun S hS b hb=>bu S (by rw [hM,if_neg oF];exact hS) b hb) hm)
    (fun b q hb oD _=>⟨rfl,dF oD⟩) (fun hb=>by rw [dH];exact hb) rfl
    (fun o' y oq hy=>⟨by rw [iG,if_neg (by rintro ⟨_,h1,h2⟩;exact oq ⟨by omega,by omega⟩)];exact hy,fA.2.2.2.2.2 _ _⟩) (nS hW) (fun o' oq=>by
     have h9:o'=o:=by omega
     subst h9;exact uX)
  | box cs'=>
   rw [hT] at h1 ht;simp only [TT.cts,aO] at ht;subst ht;simp only [TR,bD] at h1 ⊢;obtain ⟨as,b,g1,g2,g3,g4,g5,g6,g7⟩:=h1;rw [hs] at g1;cases g1;by_cases oF:sk=[]
   ·obtain ⟨h0,rfl,rfl,rfl,rfl⟩:=hPj.2 oF;have oD:b=B:=by
     have ha:=hp.addr;rw [hT,g2,oF] at ha;simp [iF,rb,wk] at ha;exact ha.1
    subst oD;subst oF;have ho:o=0:=by omega
    subst ho;have hP0:P=[]:=hP.1 rfl;subst hP0;refine ⟨_,b,rfl,g2,by rw [dH];exact g3,g4,nS g5,fun k j c e' hk => ?_,by simpa [lH] using uX⟩;have:=g6 k j c e' hk;rw [<-this];unfold cellD;rw [iG,if_neg];rintro ⟨_,h1,h2⟩;have hky:k-off<ys.length:=by omega
    have:(CT.sl (.own (some (j,c))) e') = .d:=by
     refine Wj hd (k:=k-off) ?_;rw [qV hky,pQ,show off+(k-off)=k from by omega];exact hk
    cases this
   ·obtain ⟨rfl,rfl⟩:=hPj.1 oF;have oD:b≠B:=by
     rintro rfl;rw [g4] at jh;simp only [aO,di,true_and] at jh;exact oF (hP.2 jh.symm)
    have fO:=dF (w:=w) (o:=O+off) (vs:=ys) oD;have lF:rg w (tg t) (tm t)=cellD w b:=by rw [hT];funext k;simp [rg,g2]
    have ha:=hp.addr;rw [lF] at ha fe;simp only [iF] at ha;have nk:=Jj (κ':=κ) (w':=bG w B (O+off) ys) (bo:=(rb (tg t) (tm t)).map fun b=>(b,0)) oF fe he hl (by simpa using ha) (eU (fun S hS b hb=>bu S (by rw [hM,if_neg oF];exact hS) b hb) hm)
     (fun b q hb oD _=>⟨rfl,dF oD⟩) (fun hb=>by rw [dH];exact hb) rfl
     (fun o' y oq hy=>⟨by rw [iG,if_neg (by rintro ⟨_,h1,h2⟩;exact oq ⟨by omega,by omega⟩)];exact hy,fA.2.2.2.2.2 _ _⟩) (nS hW) (fun o' oq=>by
      have:o'=o:=by omega
      subst this;exact uX)
    have hcd:∀i,i<cs'.length->cellD (bG w B (O+off) ys) b i=cellD w b i:=fun i hi=>fO.cD g5.rdb (wN _) hi
    exact ⟨_,b,rfl,g2,by rw [dH];exact g3,g4,nS g5,fun k j c e' hk=>by rw [hcd k (bf hk).1];exact g6 k j c e' hk,
     mO (fun i _ hi=>hcd i (by simpa using hi)) nk⟩
  | dead=>rw [hT] at ht;simp [TT.cts] at ht
  | alias=>rw [hT] at ht;simp [TT.cts] at ht
  | ptr=>rw [hT] at ht;simp [TT.cts] at ht
  | tup=>rw [hT] at ht;simp [TT.cts] at ht
 ·have aZ:t≠r:=by omega
  simp only [upd,aZ,if_false,h.out t nH];simp [TT.killD,TT.kill]
 ·exact h.col b (by rw [<-dH];exact hb)
 ·exact ⟨by rw [dH];exact h.fr.size,fun b hb h0=>⟨(h.fr.kept b hb h0).1,by
   have oD:b≠B:=by rintro rfl;rw [(h.fr.kept _ hb h0).1] at jh;cases jh
   rw [fA.2.2.2.2.1 b oD];exact (h.fr.kept b hb h0).2⟩,by rw [fA.2.1];exact h.fr.os,by rw [fA.2.2.1];exact h.fr.out,by rw [fA.2.2.2.1];exact h.fr.tape⟩
end
end Go.Fw
namespace Go.Fw
def uo (r off n:Nat) (srcs:aa Nat) (p:Pl):ah Pl:=
 if p.1=r then match p.2 with
  | k::q=>if off<=k/\k<off+n then none else some (r,k::q)
  | []=>some (r,[])
 else if p.1∈srcs then match p.2 with
  | k::q=>some (r,(off+k)::q)
  | []=>none
 else some p
theorem aDw {r off n:Nat} {srcs:aa Nat}:∀r' q p,uo r off n srcs (r',q)=some p->r'∉srcs->p=(r',q):=by
 intro r' q p h hr;unfold uo at h;by_cases h1:r'=r
 ·subst h1;simp only [if_true] at h;cases q with
  | nil=>simp at h;exact h.symm
  | cons k q=>
   simp only at h;split at h
   ·cases h
   ·cases h;rfl
 ·simp only [h1,hr,if_false] at h;cases h;rfl
def TT.killS (r:Nat) (mods M:aa Nat):TT->TT
 | .ptr r' [] off S=>if r'=r then .ptr r' [] off S else (TT.ptr r' [] off S).kill mods M
 | x=>x.kill mods M
theorem ar8 {κ κ':aP} {w w':aB} {M:aa Nat} {r off n:Nat} {cs:aa CT} {get:Nat->aj} {ra:aa A} (bu:∀S,(∀m,m∈M->m∉S)->∀b,bn κ w S b->bn κ' w' S b/\Same w w' b)
  (hm:CT.mens M cs=false) (ho:∀k b q,¬(off<=k/\k<off+n)->κ b=some (r,k::q)->κ' b=κ b/\Same w w' b) (h:aC κ w cs (r,[]) 0 get ra):aC κ' w' (iQ off n cs) (r,[]) 0 get ra:=by
 refine lY (by rw [jk];exact dE h) fun k c a hc ha => ?_
 rw [vX] at hc;cases sK:cs[k]? with
 | none=>simp [sK] at hc
 | some c0=>
  simp only [sK,dA,aO] at hc;have h0:=gW h sK ha;split at hc
  ·subst hc;cases c0 with
   | d=>simp only [vW];cases a with
    | v y=>simp only [RC] at h0 ⊢;exact h0
    | s xs=>simp [RC] at h0
   | sl m e=>simp only [vW,RC]
  ·rename_i hk;subst hc;refine vV (yY (fun S hS=>bu S hS) (u7 hm sK)) (fun b q hb=>ho k b q hk ?_) h0;simpa [Pl.at] using hb
theorem agX {off:Nat} {cs x:aa CT} (h:off+x.length<=cs.length):splice (iQ off x.length cs) off x=splice cs off x:=by
 apply X0;intro k;rw [nV (by rw [jk];exact h),nV h];split
 ·rw [vX];rename_i hk;cases cs[k]? with
  | none=>rfl
  | some c=>simp only [dA];rw [if_neg (by omega)]
 ·split
  ·rfl
  ·rw [vX];cases cs[k]? with
   | none=>rfl
   | some c=>simp only [dA];rw [if_neg (by omega)]
section
variable {ac:Nat->Nat->aj} {κ0 κ:aP} {w0 w w':aB} {N:Nat} {tg:Nat->TT} {sv:Nat->AV} {tm:Nat->aj}
theorem agY (h:R ac κ0 w0 κ w N tg sv tm) {r:Nat} (sN:r<N) {cr:aa CT} (ht:tg r = .box cr) {ra:aa A} (hs:sv r = .v ra []) {srcs:aa Nat} (qx:FB∉srcs) (oH:r∉srcs) {t:Nat} {cs:aa CT} {vs:aa aj}
  {as:aa A} (hp:Part κ w srcs t cs vs as) {off:Nat} (hn:off+cs.length<=cr.length) (hm:CT.mens srcs cr=false) (BR:gY cs=true) :
  ∃B,tm r = .pointer (some ⟨B,0,none⟩)/\Wrb w B off (off+vs.length) /\
  R ac κ0 w0 (aX κ (uo r off cs.length srcs) none) (bG w B off vs) N (upd (fun u=>if u∈srcs then .dead else (tg u).killS r (r::srcs) srcs) r (.box (splice cr off cs)))
   (upd sv r (.v (splice ra off as) [])) tm:=by
 have h1:=h.tr r;rw [ht] at h1;simp only [TR] at h1;obtain ⟨as',B,g1,g2,g3,g4,g5,g6,g7⟩:=h1;rw [hs] at g1;cases g1;have Ck:=hp.len;refine ⟨B,g2,g5.sub (wN _) (by omega),?_⟩;have fA:=kP vs w B off;have dH:(bG w B off vs).heap.size=w.heap.size:=fA.1;have ku:∀b p,κ b=some p->aX κ (uo r off cs.length srcs) none b=uo r off cs.length srcs p:=fun b p hb=>rW (fun _ _ h=>by cases h) h.col hb
 have akv:∀S,(∀m,m∈srcs->m∉S)->∀b,bn κ w S b->bn (aX κ (uo r off cs.length srcs) none) w S b/\Same w w b:=
  fun S hS b hb=>nU (Grows.refl w) aDw (fun _ _ h=>by cases h) hS b hb
 have aZ:∀S b,bn κ w S b->b≠B:=by
  rintro S b hb rfl;exact (hb.2 _ _ g4).2 rfl
 have bu:∀S,(∀m,m∈srcs->m∉S)->∀b,bn κ w S b->bn (aX κ (uo r off cs.length srcs) none) (bG w B off vs) S b/\Same w (bG w B off vs) b:=
  fun S hS b hb=>⟨⟨by rw [dH];exact (akv S hS b hb).1.1,(akv S hS b hb).1.2⟩,dF (aZ S b hb)⟩
 have jh:aX κ (uo r off cs.length srcs) none B=some (r,[]):=by rw [ku B _ g4];simp [uo]
 -- the new row,in the elder world
 have agI:aC (aX κ (uo r off cs.length srcs) none) w (splice cr off cs) (r,[]) 0 (fun k=>(splice ((List.range cr.length).map (cellD w B)) off vs).getD k undef) (splice ra off as):=by
  rw [<-agX hn];refine Yb ?_ (by simp [jk]) ?_ Ck (by rw [jk];exact hn)
  ·refine mO (fun i _ hi => ?_) (ar8 (M:=srcs) akv hm (fun k b q hk hb=>⟨?_,Same.refl w b⟩) g7)
   ·rw [jk] at hi;simp at hi;simp [hi]
   ·rw [ku b _ hb,hb];simp only [uo,if_true];rw [if_neg hk]
  ·by_cases hts:t∈srcs
   ·have:=fZ (f:=id) (P:=fun S=>∀m,m∈srcs->m∉S) (κ':=aX κ (uo r off cs.length srcs) none) (w':=w) (p':=(r,[])) (j':=off) (get':=fun k=>vs.getD (k-off) undef) akv
     (eU (fun S hS=>hS) hp.men) (fun i hi b q hb=>⟨?_,Same.refl w b⟩) (fun i hi=>by simp) hp.row
    ·rwa [iR] at this
    ·rw [ku b _ hb];have Hq:t≠r:=by rintro rfl;exact oH hts
     simp [uo,Hq,hts]
   ·exact jR (P:=fun S=>∀m,m∈srcs->m∉S) akv (hp.own.resolve_left hts) (eU (fun S hS=>hS) hp.men) (fun i hi=>by simp) hp.row
 have lD:∀k,k<cr.length->cellD (bG w B off vs) B k=(splice ((List.range cr.length).map (cellD w B)) off vs).getD k undef:=by
  intro k hk;rw [dw,nV (by simp;omega)];split
  ·unfold cellD;rw [iG,if_neg (by omega)];simp [hk]
  ·split
   ·have:=Ac (w:=w) (b:=B) (o:=off) (vs:=vs) (g5.sub (wN _) (by omega)) (k-off) (by omega);rw [show off+(k-off)=k from by omega] at this;rw [this,dw]
   ·unfold cellD;rw [iG,if_neg (by omega)];simp [hk]
 have aw7:(splice cr off cs).length=cr.length:=lI hn;have aDW:aC (aX κ (uo r off cs.length srcs) none) (bG w B off vs) (splice cr off cs) (r,[]) 0 (cellD (bG w B off vs) B) (splice ra off as):=by
  refine Wh (iH (fun S b hb => ?_) _) (fun i hi b q hb=>⟨rfl,dF ?_⟩) (fun i hi => ?_) agI
  ·have:b≠B:=by rintro rfl;exact (hb.2 _ _ jh).2 rfl
   exact ⟨⟨by rw [dH];exact hb.1,hb.2⟩,dF this⟩
  ·rintro rfl;rw [jh] at hb;simp at hb
  ·rw [dG];exact lD i (by omega)
 refine ul (mods:=r::srcs) (M:=srcs) h (by have:=h.nle;simp only [a_,not_or];exact ⟨by omega,qx⟩) bu (fun b r' q jC hb => ?_) (fun u hu => ?_) (fun u hu => ?_) (fun u _=>rfl) (fun u hu => ?_) (fun u hu => ?_) (fun b hb => ?_) ?_
 ·simp at jC;refine ⟨?_,dF ?_⟩
  ·rw [ku b _ hb,hb];simp [uo,jC]
  ·rintro rfl;rw [g4] at hb;cases hb;exact jC.1 rfl
 ·simp at hu;simp only [upd,hu.1,hu.2,if_false];cases hT:tg u with
  | ptr r' sk off' S'=>
   cases sk with
   | nil=>
    simp only [TT.killS];by_cases hrr:r'=r
    ·subst hrr;right;simp only [if_true];refine ⟨fun x=>by simp,?_⟩;have h2:=h.tr u;rw [hT] at h2;simp only [TR,upd_ne _ _ _ hu.1,ht,rb,g2,iF] at h2 ⊢;obtain ⟨is',B',O',k1,k2,k3,k4,k5⟩:=h2;cases is' with
     | nil=>
      simp only [dA,wk,aO,di] at k2;obtain ⟨rfl,rfl⟩:=k2;exact ⟨[],B,0,k1,by simp [upd,wk,rb],by simp [PO],fun b hb=>by simp [upd,rb] at hb;subst hb;exact jh,k5⟩
     | cons=>simp [wk] at k2
    ·simp only [hrr,if_false];exact .inl trivial
   | cons s sk=>left;simp [TT.killS]
  | _=>left;simp [TT.killS]
 ·simp at hu;simp [upd,hu]
 ·by_cases yx:u=r
  ·subst yx;rw [bD];simp only [TR,bD];refine ⟨_,B,rfl,g2,by rw [dH];exact g3,jh,by rw [aw7];exact nS g5,fun k j c e hk => ?_,aDW⟩;rw [nV hn] at hk;have om:k<cr.length:=by
    split at hk
    ·omega
    ·split at hk
     ·omega
     ·exact (bf hk).1
   rw [lD k om,dw,nV (by simp;omega)];split at hk
   ·rename_i h9;rw [if_pos h9];have:=g6 k j c e hk;simpa [om] using this
   ·split at hk
    ·exact gu (ac:=ac) (get:=fun _=>ac j c) BR (k-off) j c e hk▸absurd hk (by
      intro hk
      have:=bX.1 BR _ (eZ hk)
      simp at this)
    ·rename_i h8 h9;rw [if_neg h8,if_neg (by omega)];have:=g6 k j c e hk;simpa [om] using this
  ·simp [yx] at hu;simp [upd,yx,hu,TR]
 ·have aw8:u≠r:=by omega
  simp only [upd,aw8,if_false,h.out u hu];split
  ·rfl
  ·simp [TT.killS,TT.kill]
 ·rw [dH] at hb;simp [aX,h.col b hb]
 ·refine ⟨by rw [dH];exact h.fr.size,fun b hb h0 => ?_,by rw [fA.2.1];exact h.fr.os,by rw [fA.2.2.1];exact h.fr.out,by rw [fA.2.2.2.1];exact h.fr.tape⟩;have hk:=h.fr.kept b hb h0;have oD:b≠B:=by rintro rfl;rw [hk.1] at g4;cases g4
  exact ⟨by simp [aX,hk.1],by rw [fA.2.2.2.2.1 b oD];exact hk.2⟩
end
end Go.Fw
namespace Go.Fw
def AP (tx ty:ah Nat) (d m:Nat) (inp:Bool) (p:Pl):ah Pl:=
 if some p.1=tx then match p.2 with
  | [0]=>if inp then some (d,[0]) else none
  | 0::k::q=>some (d,0::k::q)
  | _=>none
 else if some p.1=ty then match p.2 with
  | 0::k::q=>some (d,0::(m+k)::q)
  | _=>none
 else if p.1=d then none else some p
theorem aDx {tx ty:ah Nat} {d m:Nat} {inp:Bool} {srcs:aa Nat} (hx:∀x,tx=some x->x∈srcs) (hy:∀y,ty=some y->y∈srcs) :
  ∀r q p,AP tx ty d m inp (r,q)=some p->r∉srcs->p=(r,q):=by
 intro r q p h hr;unfold AP at h;have h1:¬some r=tx:=fun he=>hr (hx r he.symm)
 have h2:¬some r=ty:=fun he=>hr (hy r he.symm)
 simp only [h1,h2,if_false] at h;split at h
 ·cases h
 ·cases h;rfl
section
variable {ac:Nat->Nat->aj} {κ0 κ:aP} {w0 w w':aB} {N:Nat} {tg:Nat->TT} {sv:Nat->AV} {tm:Nat->aj}
theorem Yd (w:aB) (n:Nat) (ao:ah Addr) (h:n=0\/ao≠none):(behind w n ao).length=n:=by
 cases ao with
 | none=>rcases h with rfl|h
         ·rfl
         ·exact absurd rfl h
 | some a=>simp [behind]
theorem avU {P:aS} {t t2 eT e2T:TypeId} {i:TypeInfo} {z:aj} {ty:TypeId} (hE:NW P t eT i z) (ht2:P.underlying t2=some (.slice e2T))
  (h:R ac κ0 w0 κ w N tg sv tm) {d:Nat} (hd:d<N) {srcs:aa Nat} (qx:FB∉srcs) {e:aa CT} (Kj:e.length=i.size) {xs ys:aa (aa A)} {ao yo:ah Addr} {cap ycap:Nat} {tx:ah Nat} {yt:Nat}
  (hx:(tx=none/\xs=[]/\ao=none/\cap=0)\/∃x pin,tx=some x/\x∈srcs/\RC κ w (.sl (.own pin) e) (x,[0]) (.slice ao xs.length cap) (.s xs))
  (hy:ys=[]\/∃b o,yo=some ⟨b,o,none⟩/\Rdb w b o (o+ys.length*e.length)/\dC κ w e (yt,[0]) 0 (fun j=>cellD w b (o+j)) ys)
  (hyo:yt∈srcs\/CT.nowns e=true) (hxy:tx≠some yt) (hm:CT.mens srcs e=false) (MP:CT.lives e=true) (ac6:xs.length+ys.length<=4294967296) :
  ∃κ' w' v,(Builtin.append_ #[t,t2] ty #[.slice ao xs.length cap,.slice yo ys.length ycap]).run P w = .ok v w' /\
   R ac κ0 w0 κ' w' N (upd (fun u=>if u∈srcs then .dead else (tg u).kill (d::srcs) srcs) d (.val false [.sl (.own none) e])) (upd sv d (.v [.s (xs++ys)] [])) (upd tm d v):=by
 have qw:FB∉d::srcs:=by have:=h.nle;simp only [a_,not_or];exact ⟨by omega,qx⟩
 -- what is appended to
 have bP:xs.length<=cap:=by
  rcases hx with ⟨_,rfl,_,rfl⟩|⟨x,pin,_,_,ug⟩
  ·simp
  ·simp only [RC] at ug;obtain ⟨_,_,hh,df,_⟩:=ug;cases hh;exact df
 have hs:(ao=none/\cap=0)\/∃b o,ao=some ⟨b,o,none⟩/\Wrb w b o (o+cap*i.size):=by
  rcases hx with ⟨_,_,h1,h2⟩|⟨x,pin,_,_,ug⟩
  ·exact .inl ⟨h1,h2⟩
  ·simp only [RC] at ug;obtain ⟨_,_,hh,df,hc⟩:=ug;cases hh;rcases hc with hc|⟨b,o,rfl,_,_,hw,_⟩
   ·exact .inl hc
   ·exact .inr ⟨b,o,rfl,by rw [Kj] at hw;exact hw⟩
 have hyr:ys.length=0\/∃b o,yo=some ⟨b,o,none⟩/\Rdb w b o (o+ys.length*i.size):=by
  rcases hy with rfl|⟨b,o,h1,h2,_⟩
  ·exact .inl rfl
  ·exact .inr ⟨b,o,h1,by rw [<-Kj];exact h2⟩
 -- the cells that are appended
 have VZ:(behind w (ys.length*i.size) yo).length=ys.length*i.size:=by
  refine Yd w _ yo ?_;rcases hy with rfl|⟨b,o,rfl,_,_⟩
  ·exact .inl (by simp)
  ·exact .inr (by simp)
 have hbg:∀b o,yo=some ⟨b,o,none⟩->∀k,k<ys.length*i.size->(behind w (ys.length*i.size) yo).getD k undef=cellD w b (o+k):=by
  rintro b o rfl k hk;simp only [behind];exact tC hk
 have V3:(behind w (ys.length*i.size) yo).all rU=true:=by
  rw [bX];intro v hv;obtain ⟨k,hk,rfl⟩:=FZ.1 hv;rcases hy with rfl|⟨b,o,rfl,h2,h3⟩
  ·rw [VZ] at hk;simp at hk
  ·rw [VZ] at hk;have yw:=hE.pos;have hkd:=hbg b o rfl k hk;rw [dw,aT (by rw [VZ];exact hk)] at hkd;simp only [Option.getD_some] at hkd;rw [hkd];have cZ:k / i.size<ys.length:=by rw [Nat.div_lt_iff_lt_mul yw];exact hk
   have hr:=qD h3 (aT cZ);have hc:k % i.size<e.length:=by rw [Kj];exact Nat.mod_lt _ yw
   have:=gW hr (aT hc) (aT (by rw [dE hr];exact hc));have hf:=Jn (rV MP (aT hc)) this;rw [show 0+k / i.size*e.length+k % i.size=k from by rw [Kj,dG,Nat.mul_comm];exact Nat.div_add_mod k i.size] at hf;exact hf
 have eQ:=aoT (t:=t) (t2:=t2) (ty:=ty) (len:=xs.length) (n:=ys.length) (xc:=ycap) hE ht2 bP ac6 hs hyr V3;have aCr:∀x,tx=some x->x∈srcs:=by
  rintro x rfl;rcases hx with ⟨h1,_⟩|⟨x',_,h1,h2,_⟩
  ·cases h1
  ·cases h1;exact h2
 obtain ⟨tyo,aCs⟩:∃tyo:ah Nat,(tyo=some yt/\yt∈srcs)\/(tyo=none/\CT.nowns e=true/\yt∉srcs):=by
  by_cases hm:yt∈srcs
  ·exact ⟨some yt,.inl ⟨rfl,hm⟩⟩
  ·exact ⟨none,.inr ⟨rfl,hyo.resolve_left hm,hm⟩⟩
 have aCt:∀y,tyo=some y->y∈srcs:=by
  rintro y rfl;rcases aCs with ⟨h1,h2⟩|⟨h1,_⟩
  ·cases h1;exact h2
  ·cases h1
 have arB:CT.allSs (fun S=>∀m,m∈srcs->m∉S) e:=eU (fun S hS=>hS) hm
 -- the rows,in the new colouring
 have rows:∀(κ':aP) (w':aB) (inp:Bool) (get:Nat->aj),(∀b p,κ b=some p->κ' b=AP tx tyo d (xs.length*e.length) inp p) ->
   (∀S,(∀m,m∈srcs->m∉S)->∀b,bn κ w S b->bn κ' w' S b/\Same w w' b)->(∀b r q,(∃x,(tx=some x/\r=x)\/(tyo=some x/\r=x))->q≠[0]->κ b=some (r,q)->Same w w' b) ->
   (∀b o,ao=some ⟨b,o,none⟩->∀k,k<xs.length*e.length->get k=cellD w b (o+k))->(∀b o,yo=some ⟨b,o,none⟩->∀k,k<ys.length*e.length->get (xs.length*e.length+k)=cellD w b (o+k)) ->
   dC κ' w' e (d,[0]) 0 get (xs++ys):=by
  intro κ' w' inp get hκ bu rH hgx hgy;refine aoS (wO fun k x hk => ?_) (wO fun k y hk => ?_)
  ·have NJ:=(bf hk).1;rcases hx with ⟨_,rfl,_⟩|⟨x',pin,rfl,Bz,ug⟩
   ·simp at NJ
   ·simp only [RC] at ug;obtain ⟨_,_,hh,df,hc⟩:=ug;cases hh;rcases hc with ⟨_,rfl⟩|⟨b,o,rfl,wF,hb,hw,he⟩
    ·omega
    ·have hr:=qD he hk;have bq:=jK e.length (show k+1<=xs.length by omega);rw [eu] at bq;have:=fZ (f:=id) (P:=fun S=>∀m,m∈srcs->m∉S) (κ':=κ') (w':=w') (p':=(d,[0])) (j':=0+k*e.length) (get':=get) bu arB (fun c hc b' q cO=>⟨?_,?_⟩) (fun c hc => ?_) hr
     ·rwa [iR] at this
     ·rw [hκ b' _ cO];simp [AP]
     ·exact rH b' _ _ ⟨x',.inl ⟨rfl,rfl⟩⟩ (by simp) cO
     ·rw [hgx b o rfl _ (by omega)]
  ·have NJ:=(bf hk).1;rcases hy with rfl|⟨b,o,rfl,hrd,he⟩
   ·simp at NJ
   ·have hr:=qD he hk;have bq:=jK e.length (show k+1<=ys.length by omega);rw [eu] at bq;rcases aCs with ⟨rfl,hys⟩|⟨rfl,arz,_⟩
    ·have:=fZ (f:=id) (P:=fun S=>∀m,m∈srcs->m∉S) (κ':=κ') (w':=w') (p':=(d,[0])) (j':=0+xs.length*e.length+k*e.length) (get':=get) bu arB (fun c hc b' q cO=>⟨?_,?_⟩) (fun c hc => ?_) hr
     ·rwa [iR] at this
     ·rw [hκ b' _ cO];have aZ:¬some yt=tx:=fun h=>hxy h.symm
      simp [AP,aZ];omega
     ·exact rH b' _ _ ⟨yt,.inr ⟨rfl,rfl⟩⟩ (by simp) cO
     ·rw [show 0+xs.length*e.length+k*e.length+c=xs.length*e.length+(k*e.length+c) from by omega,hgy b o rfl _ (by omega)];congr 1;omega
    ·refine jR (P:=fun S=>∀m,m∈srcs->m∉S) bu arz arB (fun c hc => ?_) hr;rw [show 0+xs.length*e.length+k*e.length+c=xs.length*e.length+(k*e.length+c) from by omega,hgy b o rfl _ (by omega)];congr 1;omega
 have aw9:∀inp r q,r∉d::srcs->AP tx tyo d (xs.length*e.length) inp (r,q)=some (r,q):=by
  intro inp r q hr;simp at hr;have h1:¬some r=tx:=fun he=>hr.2 (aCr r he.symm)
  have h2:¬some r=tyo:=fun he=>hr.2 (aCt r he.symm)
  simp [AP,h1,h2,hr.1]
 have hFM:=fun inp=>aDx (d:=d) (m:=xs.length*e.length) (inp:=inp) aCr aCt
 -- tags of the others
 have fin:∀(κ':aP) (w':aB) (v:aj),TR ac κ' w' (upd (fun u=>if u∈srcs then .dead else (tg u).kill (d::srcs) srcs) d (.val false [.sl (.own none) e])) (upd sv d (.v [.s (xs++ys)] [])) (upd tm d v) d (.val false [.sl (.own none) e]) ->
   ∀u,u∈d::srcs->TR ac κ' w' (upd (fun u=>if u∈srcs then .dead else (tg u).kill (d::srcs) srcs) d (.val false [.sl (.own none) e])) (upd sv d (.v [.s (xs++ys)] [])) (upd tm d v) u
    (upd (fun u=>if u∈srcs then .dead else (tg u).kill (d::srcs) srcs) d (.val false [.sl (.own none) e]) u):=by
  intro κ' w' v hT u hu;by_cases FK:u=d
  ·subst FK;rw [bD];exact hT
  ·simp [FK] at hu;simp [upd,FK,hu,TR]
 have pg:∀u,N<=u->upd (fun u=>if u∈srcs then .dead else (tg u).kill (d::srcs) srcs) d (.val false [.sl (.own none) e]) u = .dead:=by
  intro u hu;have aZ:u≠d:=by omega
  simp only [upd,aZ,if_false];split
  ·rfl
  ·simp [h.out u hu,TT.kill]
 have sM:∀r,r∉d::srcs->upd (fun u=>if u∈srcs then .dead else (tg u).kill (d::srcs) srcs) d (.val false [.sl (.own none) e]) r=(tg r).kill (d::srcs) srcs:=by
  intro r hr;simp at hr;simp [upd,hr]
 rcases eQ with ⟨b,o,rfl,df,eQ⟩|⟨h0,rfl,eQ⟩|⟨newCap,rest,bU,Ki,aDX,eQ⟩
 ·-- in place
  obtain ⟨x,pin,rfl,Bz,ug⟩:∃x pin,tx=some x/\x∈srcs/\RC κ w (.sl (.own pin) e) (x,[0]) (.slice (some ⟨b,o,none⟩) xs.length cap) (.s xs):=by
   rcases hx with ⟨_,_,h1,_⟩|h1
   ·cases h1
   ·exact h1
  simp only [RC] at ug;obtain ⟨_,_,hh,aCu,hc⟩:=ug;cases hh;rcases hc with ⟨hc,_⟩|⟨b',o',hc,wF,hb,hw,he⟩
  ·cases hc
  cases hc;have fA:=kP (behind w (ys.length*i.size) yo) w b (o+xs.length*i.size);have abG:∀b p,κ b=some p->aX κ (AP (some x) tyo d (xs.length*e.length) true) none b=AP (some x) tyo d (xs.length*e.length) true p:=fun b p hb=>rW (fun _ _ h=>by cases h) h.col hb
  have aFO:∀S b',(∀m,m∈srcs->m∉S)->bn κ w S b'->b'≠b:=by
   rintro S b' hS cO rfl;exact hS x Bz (cO.2 _ _ hb).1
  have bu:∀S,(∀m,m∈srcs->m∉S)->∀b',bn κ w S b'->bn (aX κ (AP (some x) tyo d (xs.length*e.length) true) none) (bG w b (o+xs.length*i.size) (behind w (ys.length*i.size) yo)) S b' /\
    Same w (bG w b (o+xs.length*i.size) (behind w (ys.length*i.size) yo)) b':=by
   intro S hS b' cO;have:=(nU (Grows.refl w) (hFM true) (nb:=none) (fun _ _ h=>by cases h) hS b' cO).1;exact ⟨⟨by rw [fA.1];exact this.1,this.2⟩,dF (aFO S b' hS cO)⟩
  have ac7:=jK i.size df;rw [eu] at ac7;have jG:∀k,k<xs.length*e.length->cellD (bG w b (o+xs.length*i.size) (behind w (ys.length*i.size) yo)) b (o+k)=cellD w b (o+k):=by
   intro k hk;rw [Kj] at hk;unfold cellD;rw [iG,if_neg (by omega)]
  refine ⟨_,_,_,eQ,ul (κ':=aX κ (AP (some x) tyo d (xs.length*e.length) true) none) (mods:=d::srcs) (M:=srcs) h qw bu (fun b' r q hr cO => ?_) (fun r hr=>.inl (sM r hr)) (fun r hr => ?_) (fun r hr => ?_) (fin _ _ _ ?_) pg (fun b' cO => ?_) ?_⟩
  ·refine ⟨by rw [abG b' _ cO,aw9 true r q hr,cO],dF ?_⟩;rintro rfl;rw [hb] at cO;cases cO;simp at hr;exact hr.2 Bz
  ·simp at hr;simp [upd,hr]
  ·simp at hr;simp [upd,hr]
  ·simp only [TR,bD];refine ⟨_,[.slice (some ⟨b,o,none⟩) (xs.length+ys.length) cap],rfl,rfl,rfl,fun k j c e' hk=>by cases k<;>simp at hk,?_⟩;simp only [aC,RC];refine ⟨⟨_,cap,by simp,by simpa using df,.inr ⟨b,o,rfl,by rw [fA.1];exact wF,by rw [abG b _ hb];simp [AP,Pl.at],nS hw,?_⟩⟩,trivial⟩;have:=rows _ (bG w b (o+xs.length*i.size) (behind w (ys.length*i.size) yo)) true (fun j=>cellD (bG w b (o+xs.length*i.size) (behind w (ys.length*i.size) yo)) b (o+j)) abG bu
    (fun b' r q hr hq cO=>dF (by
     rintro rfl
     rw [hb] at cO;cases cO
     exact hq rfl))
    (fun b1 o1 h1 k hk=>by cases h1;exact jG k hk)
    (fun b1 o1 h1 k hk=>by
     rw [Kj] at hk ⊢
     have hW:Wrb w b (o+xs.length*i.size) (o+xs.length*i.size+(behind w (ys.length*i.size) yo).length):=by
      rw [VZ];rw [Kj] at hw;exact hw.sub (by omega) (by omega)
     have:=Ac hW k (by rw [VZ];exact hk)
     rw [<-hbg b1 o1 h1 k hk,<-this]
     congr 1;omega)
   simpa [Pl.at] using this
  ·rw [fA.1] at cO;simp [aX,h.col b' cO]
  ·refine ⟨by rw [fA.1];exact h.fr.size,fun b' cO h0 => ?_,by rw [fA.2.1];exact h.fr.os,by rw [fA.2.2.1];exact h.fr.out,by rw [fA.2.2.2.1];exact h.fr.tape⟩;have hk:=h.fr.kept b' cO h0;have oD:b'≠b:=by rintro rfl;rw [hk.1] at hb;cases hb
   exact ⟨by simp [aX,hk.1],by rw [fA.2.2.2.2.1 b' oD];exact hk.2⟩
 ·-- nothing to nothing
  have hx0:xs=[]:=qW.1 (by omega);have hy0:ys=[]:=qW.1 (by omega);refine ⟨_,_,_,eQ,abW (F:=AP tx tyo d (xs.length*e.length) false) (nb:=none) (mods:=d::srcs) (M:=srcs) h qw (Grows.refl w) (aw9 false) (hFM false) (fun _ _ h=>by cases h) sM (fun r hr => ?_) (fun r hr => ?_) (fin _ _ _ ?_) pg⟩
  ·simp at hr;simp [upd,hr]
  ·simp at hr;simp [upd,hr]
  ·simp only [TR,bD];refine ⟨_,[.slice none 0 0],rfl,rfl,rfl,fun k j c e' hk=>by cases k<;>simp at hk,?_⟩;simp only [aC,RC];subst hx0;subst hy0;exact ⟨⟨none,0,by simp,by simp,.inl ⟨rfl,rfl⟩⟩,trivial⟩
 ·-- a new block
  have gP:Grows w (fK (kw w) (behind w (xs.length*i.size) ao++behind w (ys.length*i.size) yo++rest).toArray eT):=(akX w).trans (um _ _ _);have BA:(behind w (xs.length*i.size) ao).length=xs.length*i.size:=by
   refine Yd w _ ao ?_;rcases hs with ⟨_,rfl⟩|⟨b,o,rfl,_⟩
   ·left;have:xs.length=0:=by omega
    rw [this];simp
   ·exact .inr (by simp)
  have oG:∀b p,some (w.heap.size,((d,[0]):Pl))=some (b,p)->w.heap.size<=b:=fun b p h=>by cases h;exact eY _
  have abG:∀b p,κ b=some p->aX κ (AP tx tyo d (xs.length*e.length) false) (some (w.heap.size,(d,[0]))) b=AP tx tyo d (xs.length*e.length) false p:=fun b p hb=>rW oG h.col hb
  have bu:∀S,(∀m,m∈srcs->m∉S)->∀b',bn κ w S b'->bn (aX κ (AP tx tyo d (xs.length*e.length) false) (some (w.heap.size,(d,[0])))) (fK (kw w) (behind w (xs.length*i.size) ao++behind w (ys.length*i.size) yo++rest).toArray eT) S b' /\
    Same w (fK (kw w) (behind w (xs.length*i.size) ao++behind w (ys.length*i.size) yo++rest).toArray eT) b':=fun S hS b' cO=>nU gP (hFM false) oG hS b' cO
  refine ⟨_,_,_,eQ,abW (F:=AP tx tyo d (xs.length*e.length) false) (nb:=some (w.heap.size,(d,[0]))) (mods:=d::srcs) (M:=srcs) h qw gP (aw9 false) (hFM false) (fun b p h=>by cases h;simp [fK,kw]) sM (fun r hr => ?_) (fun r hr => ?_) (fin _ _ _ ?_) pg⟩
  ·simp at hr;simp [upd,hr]
  ·simp at hr;simp [upd,hr]
  ·simp only [TR,bD];have hcD:∀k,cellD (fK (kw w) (behind w (xs.length*i.size) ao++behind w (ys.length*i.size) yo++rest).toArray eT) w.heap.size k=(behind w (xs.length*i.size) ao++behind w (ys.length*i.size) yo++rest).getD k undef:=by
    intro k;exact H6 (kw w) _ eT k
   refine ⟨_,[.slice (some ⟨w.heap.size,0,none⟩) (xs.length+ys.length) newCap],rfl,rfl,rfl,fun k j c e' hk=>by cases k<;>simp at hk,?_⟩;simp only [aC,RC];refine ⟨⟨_,newCap,by simp,by simpa using Ki,.inr ⟨w.heap.size,0,rfl,by simp [fK,kw],by simp [aX,Pl.at],?_,?_⟩⟩,trivial⟩
   ·have:=NT (kw w) (behind w (xs.length*i.size) ao++behind w (ys.length*i.size) yo++rest).toArray eT 0 (0+newCap*e.length) (by
     simp only [List.size_toArray,dR,BA,VZ,aDX,Kj]
     have:newCap=(xs.length+ys.length)+(newCap-(xs.length+ys.length)):=by omega
     conv=>lhs;rw [this]
     rw [eu,eu];omega)
    exact this
   ·have:=rows _ (fK (kw w) (behind w (xs.length*i.size) ao++behind w (ys.length*i.size) yo++rest).toArray eT) false (fun j=>cellD (fK (kw w) (behind w (xs.length*i.size) ao++behind w (ys.length*i.size) yo++rest).toArray eT) w.heap.size j) abG bu
     (fun b' r q hr hq cO=>gP.same b')
     (fun b1 o1 h1 k hk=>by
      rw [hcD,dw,lW,rQ (by rw [BA,<-Kj];exact hk)]
      subst h1
      simp only [behind,Kj] at hk ⊢
      simp [hk])
     (fun b1 o1 h1 k hk=>by
      rw [Kj] at hk ⊢
      rw [hcD,dw,lW,uZ (by rw [BA];omega),BA,rQ (by rw [VZ];omega)]
      rw [show xs.length*i.size+k-xs.length*i.size=k from by omega,<-dw]
      exact hbg b1 o1 h1 k hk)
    simpa [Pl.at] using this
end
end Go.Fw
