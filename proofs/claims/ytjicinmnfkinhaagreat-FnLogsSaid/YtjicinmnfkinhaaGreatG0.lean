/- A way of showing what a function computes: the blocks of the heap are owned by the places that kg them; this is a part of it. No conditions. -/
import Derived.Calls
import Derived.IntWalk
import Derived.KernelRfl
set_option linter.unusedSectionVars false
namespace Go.Fw
abbrev ah:=Option
abbrev aa:=List
abbrev aj:=Value
abbrev aA:=World
abbrev aR:=Program
abbrev bS:=Oper
abbrev iN:=Operand
abbrev zTd:=TypeDesc
theorem Og:type_of% @List.take_succ_eq_append_getElem:=@List.take_succ_eq_append_getElem
theorem abN:type_of% @Array.getElem?_setIfInBounds:=@Array.getElem?_setIfInBounds
theorem rG:type_of% @Array.getD_eq_getD_getElem?:=@Array.getD_eq_getD_getElem?
theorem vE:type_of% @List.getElem?_append_right:=@List.getElem?_append_right
theorem aoB:type_of% @Array.getElem?_eq_some_iff:=@Array.getElem?_eq_some_iff
theorem abO:type_of% @Int.tmod_eq_emod_of_nonneg:=@Int.tmod_eq_emod_of_nonneg
theorem aoC:type_of% @Int.tdiv_eq_ediv_of_nonneg:=@Int.tdiv_eq_ediv_of_nonneg
theorem Vq:type_of% @Array.getElem?_eq_getElem:=@Array.getElem?_eq_getElem
theorem rH:type_of% @List.getElem?_append_left:=@List.getElem?_append_left
theorem BX:type_of% @List.drop_eq_getElem_cons:=@List.drop_eq_getElem_cons
theorem RU:type_of% @List.mem_of_find?_eq_some:=@List.mem_of_find?_eq_some
theorem CQ:type_of% @Classical.byContradiction:=@Classical.byContradiction
theorem RV:type_of% @List.pairwise_iff_getElem:=@List.pairwise_iff_getElem
theorem qR:type_of% @List.getElem?_take_of_lt:=@List.getElem?_take_of_lt
theorem agq:type_of% @Array.getElem?_replicate:=@Array.getElem?_replicate
theorem nz:type_of% @List.length_eq_zero_iff:=@List.length_eq_zero_iff
theorem FR:type_of% @List.getElem?_cons_zero:=@List.getElem?_cons_zero
theorem FU:type_of% @List.getElem?_cons_succ:=@List.getElem?_cons_succ
theorem ags:type_of% @List.getElem?_replicate:=@List.getElem?_replicate
theorem CR:type_of% @Option.bind_eq_some_iff:=@Option.bind_eq_some_iff
theorem agt:type_of% @List.getElem?_set_self:=@List.getElem?_set_self
theorem cO:type_of% @Option.map_eq_some_iff:=@Option.map_eq_some_iff
theorem agu:type_of% @Array.getElem?_eq_none:=@Array.getElem?_eq_none
theorem CS:type_of% @List.take_of_length_le:=@List.take_of_length_le
theorem Ap:type_of% @List.singleton_append:=@List.singleton_append
theorem sU:type_of% @List.getElem?_toArray:=@List.getElem?_toArray
theorem Xb:type_of% @Nat.div_lt_iff_lt_mul:=@Nat.div_lt_iff_lt_mul
theorem FV:type_of% @List.length_replicate:=@List.length_replicate
theorem J5:type_of% @List.length_singleton:=@List.length_singleton
theorem jN:type_of% @List.mem_append_right:=@List.mem_append_right
theorem uY:type_of% @List.getElem?_eq_none:=@List.getElem?_eq_none
theorem sV:type_of% @List.length_filter_le:=@List.length_filter_le
theorem Xc:type_of% @Nat.eq_of_beq_eq_true:=@Nat.eq_of_beq_eq_true
theorem RX:type_of% @List.take_append_drop:=@List.take_append_drop
theorem jg:type_of% @Nat.mul_le_mul_right:=@Nat.mul_le_mul_right
theorem nA:type_of% @Bool.or_eq_false_iff:=@Bool.or_eq_false_iff
theorem iA:type_of% @List.mem_of_getElem?:=@List.mem_of_getElem?
theorem FW:type_of% @List.mem_iff_getElem:=@List.mem_iff_getElem
theorem jc:type_of% @List.mem_append_left:=@List.mem_append_left
theorem dU:type_of% @List.mem_cons_of_mem:=@List.mem_cons_of_mem
theorem CU:type_of% @List.take_succ_cons:=@List.take_succ_cons
theorem J6:type_of% @List.map_congr_left:=@List.map_congr_left
theorem RY:type_of% @Array.length_toList:=@Array.length_toList
theorem CV:type_of% @List.getElem_of_mem:=@List.getElem_of_mem
theorem uZ:type_of% @List.getD_cons_zero:=@List.getD_cons_zero
theorem gV:type_of% @Int.toNat_of_nonneg:=@Int.toNat_of_nonneg
theorem RZ:type_of% @List.getElem?_range:=@List.getElem?_range
theorem mU:type_of% @Nat.lt_of_lt_of_le:=@Nat.lt_of_lt_of_le
theorem eQ:type_of% @Bool.false_eq_true:=@Bool.false_eq_true
theorem oF:type_of% @List.getElem?_drop:=@List.getElem?_drop
theorem J7:type_of% @List.zip_cons_cons:=@List.zip_cons_cons
theorem bY:type_of% @List.mem_singleton:=@List.mem_singleton
theorem dX:type_of% @List.mem_cons_self:=@List.mem_cons_self
theorem Xd:type_of% @Int.natCast_nonneg:=@Int.natCast_nonneg
theorem Xe:type_of% @List.filter_append:=@List.filter_append
theorem R3:type_of% @Nat.add_left_comm:=@Nat.add_left_comm
theorem fJ:type_of% @List.append_assoc:=@List.append_assoc
theorem R4:type_of% @List.any_eq_false:=@List.any_eq_false
theorem kz:type_of% @List.getElem?_map:=@List.getElem?_map
theorem qU:type_of% @List.length_range:=@List.length_range
theorem J8:type_of% @List.flatten_cons:=@List.flatten_cons
theorem Xf:type_of% @List.ext_getElem?:=@List.ext_getElem?
theorem J9:type_of% @Option.mem_toList:=@Option.mem_toList
theorem pU:type_of% @Bool.not_eq_true':=@Bool.not_eq_true'
theorem FX:type_of% @List.flatMap_cons:=@List.flatMap_cons
theorem CW:type_of% @List.getElem?_set:=@List.getElem?_set
theorem CX:type_of% @List.foldl_append:=@List.foldl_append
theorem Xg:type_of% @List.nodup_append:=@List.nodup_append
theorem R5:type_of% @List.findIdx_cons:=@List.findIdx_cons
theorem nC:type_of% @List.cons_append:=@List.cons_append
theorem sW:type_of% @Nat.lt_of_not_le:=@Nat.lt_of_not_le
theorem bW:type_of% @List.all_eq_true:=@List.all_eq_true
theorem Xh:type_of% @Array.toList_map:=@Array.toList_map
theorem R6:type_of% @List.ext_getElem:=@List.ext_getElem
theorem u6:type_of% @List.getElem_mem:=@List.getElem_mem
theorem Xi:type_of% @List.map_toArray:=@List.map_toArray
theorem CY:type_of% @List.mem_flatMap:=@List.mem_flatMap
theorem kX:type_of% @List.length_drop:=@List.length_drop
theorem u7:type_of% @List.take_length:=@List.take_length
theorem nD:type_of% @List.not_mem_nil:=@List.not_mem_nil
theorem eU:type_of% @List.length_take:=@List.length_take
theorem sZ:type_of% @List.any_eq_true:=@List.any_eq_true
theorem CZ:type_of% @List.filter_cons:=@List.filter_cons
theorem fE:type_of% @List.length_map:=@List.length_map
theorem dx:type_of% @Option.map_some:=@Option.map_some
theorem iQ:type_of% @Bool.or_eq_true:=@Bool.or_eq_true
theorem bB:type_of% @List.length_nil:=@List.length_nil
theorem iR:type_of% @List.foldl_cons:=@List.foldl_cons
theorem bP:type_of% @List.mem_append:=@List.mem_append
theorem dN:type_of% @List.nil_append:=@List.nil_append
theorem kY:type_of% @List.append_nil:=@List.append_nil
theorem Aq:type_of% @Option.some.inj:=@Option.some.inj
theorem J_:type_of% @List.cons.injEq:=@List.cons.injEq
theorem wV:type_of% @List.map_append:=@List.map_append
theorem jT:type_of% @List.mem_filter:=@List.mem_filter
theorem oG:type_of% @List.nodup_cons:=@List.nodup_cons
theorem FY:type_of% @List.drop_zero:=@List.drop_zero
theorem C8:type_of% @List.take_left:=@List.take_left
theorem Ka:type_of% @List.drop_left:=@List.drop_left
theorem jh:type_of% @List.mem_range:=@List.mem_range
theorem A7:type_of% @List.take_zero:=@List.take_zero
theorem IL:type_of% @Bool.and_false:=@Bool.and_false
theorem jm:type_of% @Nat.add_assoc:=@Nat.add_assoc
theorem bU:type_of% @Prod.mk.injEq:=@Prod.mk.injEq
theorem bf:type_of% @List.map_cons:=@List.map_cons
theorem DV:type_of% @List.all_cons:=@List.all_cons
theorem aY:type_of% @List.mem_cons:=@List.mem_cons
theorem DW:type_of% @Bool.false_or:=@Bool.false_or
theorem wW:type_of% @Bool.and_true:=@Bool.and_true
theorem gz:type_of% @Bool.true_and:=@Bool.true_and
theorem p_:type_of% @Bool.and_self:=@Bool.and_self
theorem cB:type_of% @Nat.zero_add:=@Nat.zero_add
theorem kF:type_of% @Nat.le_trans:=@Nat.le_trans
theorem wX:type_of% @List.map_map:=@List.map_map
theorem rJ:type_of% @Nat.add_zero:=@Nat.add_zero
theorem bQ:type_of% @List.map_nil:=@List.map_nil
theorem cK:type_of% @List.mem_map:=@List.mem_map
theorem DY:type_of% @Nat.sub_zero:=@Nat.sub_zero
theorem A8:type_of% @Nat.pow_succ:=@Nat.pow_succ
theorem A9:type_of% @Nat.sub_self:=@Nat.sub_self
theorem dV:type_of% @Nat.le_refl:=@Nat.le_refl
theorem eD:type_of% @Nat.add_mul:=@Nat.add_mul
theorem A_:type_of% @Nat.one_mul:=@Nat.one_mul
theorem lN:type_of% @Nat.zero_le:=@Nat.zero_le
theorem Ba:type_of% @Int.le_refl:=@Int.le_refl
theorem ig:type_of% @Ne.symm:=@Ne.symm
theorem af {α β:Type _} (a:α) (f:α→ah β):Option.bind (some a) f=f a:=rfl
theorem aZ {α:Type _} {l:aa α} {i:Nat} (h:i<l.length):l[i]?=some l[i]:=List.getElem?_eq_getElem h
theorem bn {α:Type _} {l:aa α} {i:Nat} {a:α} (h:l[i]?=some a):∃h:i<l.length,l[i]=a:=List.getElem?_eq_some_iff.1 h
theorem ak {p:Prop} [Decidable p] (h:p):decide p=true:=decide_eq_true h
theorem aD {p:Prop} [Decidable p] (h:¬p):decide p=false:=decide_eq_false h
theorem az {α:Sort _} (a b:α):cond false a b=b:=rfl
theorem au {α:Sort _} (a b:α):cond true a b=a:=rfl
theorem aK {α:Type _} (a b:α):(some a=some b)=(a=b):=Option.some.injEq a b
theorem aM (a b:Bool):((a&&b)=true)=(a=true/\b=true):=Bool.and_eq_true a b
theorem eH (n:Nat):(n:Int).toNat=n:=rfl
theorem bq {α:Type _} {a b:aa α}:(a++b).length=a.length+b.length:=List.length_append
theorem bA {α:Type _} {a:α} {l:aa α}:(a::l).length=l.length+1:=rfl
theorem rM {α:Type _} {l:aa α} {i:Nat} {a:α}:(l.set i a).length=l.length:=List.length_set
theorem dA {α:Type _} {l:aa α} {i:Nat} {a:α}:l.getD i a=(l[i]?).getD a:=List.getD_eq_getElem?_getD
theorem bK:(!true)=false:=rfl
theorem mF:(!false)=true:=rfl
inductive A where
 | v (x:Value)
 | s (xs:List (List A))
inductive Md where
 | own (pin:Option (Nat × Nat))
 | ro (S:List Nat)
 | dead
 deriving DecidableEq
inductive CT where
 | d
 | sl (m:Md) (e:List CT)
abbrev Pl:=Nat × List Nat
abbrev aP:=Nat->Option Pl
def Pl.at (p:Pl) (j:Nat):Pl:=(p.1,p.2++[j])
def bu (κ:aP) (w:aA) (S:aa Nat) (b:Nat):Prop:=b<w.heap.size/\∀r p,κ b=some (r,p)->r∈S/\p≠[]
def cellD (w:aA) (b o:Nat):aj:=(w.cell? ⟨b,o,none⟩).getD undef
def sc:aj->Bool
 | .bool _ | .int _ _ | .string _=>true
 | _=>false
def Rdb (w:aA) (b lo hi:Nat):Prop:=∀o,lo<=o->o<hi->∃x,w.cell? ⟨b,o,none⟩=some x
def Wrb (w:aA) (b lo hi:Nat):Prop:=∀o,lo<=o->o<hi->(∃x,w.cell? ⟨b,o,none⟩=some x)/\w.frozen? ⟨b,o,none⟩=false
mutual
def RC (κ:aP) (w:aA):CT->Pl->aj->A->Prop
 | .d,_,x,.v y=>x=y/\sc y=true
 | .sl (.own _) e,p,x,.s xs=>∃ao cap,x = .slice ao xs.length cap/\xs.length<=cap /\
   ((ao=none/\cap=0)\/∃b o,ao=some ⟨b,o,none⟩/\b<w.heap.size/\κ b=some p/\Wrb w b o (o+cap*e.length)/\dF κ w e p 0 (fun j=>cellD w b (o+j)) xs)
 | .sl (.ro S) e,p,x,.s xs=>∃ao cap,x = .slice ao xs.length cap/\xs.length<=cap /\
   (xs=[]\/∃b o,ao=some ⟨b,o,none⟩/\bu κ w S b/\Rdb w b o (o+xs.length*e.length)/\dF κ w e p 0 (fun j=>cellD w b (o+j)) xs)
 | .sl .dead _,_,_,_=>True
 | _,_,_,_=>False
def aB (κ:aP) (w:aA):aa CT->Pl->Nat->(Nat->aj)->aa A->Prop
 | [],_,_,_,[]=>True
 | c::cs,p,j,get,a::as=>RC κ w c (p.at j) (get j) a/\aB κ w cs p (j+1) get as
 | _,_,_,_,_=>False
def dF (κ:aP) (w:aA):aa CT->Pl->Nat->(Nat->aj)->aa (aa A)->Prop
 | _,_,_,_,[]=>True
 | e,p,j,get,x::xs=>aB κ w e p j get x/\dF κ w e p (j+e.length) get xs
end
mutual
def CT.mapS (f:aa Nat->aa Nat):CT->CT
 | .d=>.d
 | .sl (.ro S) e=>.sl (.ro (f S)) (CT.mapSs f e)
 | .sl m e=>.sl m (CT.mapSs f e)
def CT.mapSs (f:aa Nat->aa Nat):aa CT->aa CT
 | []=>[]
 | c::cs=>c.mapS f::CT.mapSs f cs
end
mutual
def CT.roize (S:aa Nat):CT->CT
 | .d=>.d
 | .sl _ e=>.sl (.ro S) (CT.roizes S e)
def CT.roizes (S:aa Nat):aa CT->aa CT
 | []=>[]
 | c::cs=>c.roize S::CT.roizes S cs
end
mutual
def CT.allS (P:aa Nat->Prop):CT->Prop
 | .d=>True
 | .sl (.ro S) e=>P S/\CT.allSs P e
 | .sl _ e=>CT.allSs P e
def CT.allSs (P:aa Nat->Prop):aa CT->Prop
 | []=>True
 | c::cs=>c.allS P/\CT.allSs P cs
end
mutual
def CT.live:CT->Bool
 | .d=>true
 | .sl .dead _=>false
 | .sl _ e=>CT.lives e
def CT.lives:aa CT->Bool
 | []=>true
 | c::cs=>c.live&&CT.lives cs
end
theorem gM (f:aa Nat->aa Nat) (cs:aa CT):(CT.mapSs f cs).length=cs.length:=by
 induction cs with
 | nil=>simp [CT.mapSs]
 | cons c cs ih=>simp [CT.mapSs,ih]
theorem dE (S:aa Nat) (cs:aa CT):(CT.roizes S cs).length=cs.length:=by
 induction cs with
 | nil=>simp [CT.roizes]
 | cons c cs ih=>simp [CT.roizes,ih]
theorem aAX (f:aa Nat->aa Nat):CT.mapS f .d = .d:=by simp [CT.mapS]
theorem avT (f:aa Nat->aa Nat) (k:ah (Nat × Nat)) (e:aa CT):CT.mapS f (.sl (.own k) e) = .sl (.own k) (CT.mapSs f e):=by simp [CT.mapS]
theorem azD (f:aa Nat->aa Nat) (S:aa Nat) (e:aa CT):CT.mapS f (.sl (.ro S) e) = .sl (.ro (f S)) (CT.mapSs f e):=by simp [CT.mapS]
theorem arY (f:aa Nat->aa Nat) (e:aa CT):CT.mapS f (.sl .dead e) = .sl .dead (CT.mapSs f e):=by simp [CT.mapS]
theorem dH {κ:aP} {w:aA}:∀{cs:aa CT} {p:Pl} {j:Nat} {get:Nat->aj} {as:aa A},aB κ w cs p j get as->as.length=cs.length
 | [],_,_,_,[],_=>rfl
 | c::cs,p,j,get,a::as,h=>by
  simp only [aB] at h;simp [dH h.2]
 | [],_,_,_,_::_,h=>by simp [aB] at h
 | _::_,_,_,_,[],h=>by simp [aB] at h
theorem mD {κ:aP} {w:aA} {p:Pl} {get get':Nat->aj}:∀{cs:aa CT} {j:Nat} {as:aa A},(∀i,j<=i->i<j+cs.length->get' i=get i) ->
  aB κ w cs p j get as->aB κ w cs p j get' as
 | [],_,[],_,_=>by simp [aB]
 | c::cs,j,a::as,hg,h=>by
  simp only [aB] at h ⊢;refine ⟨?_,mD (fun i h1 h2=>hg i (by omega) (by simp;omega)) h.2⟩;rw [hg j (dV _) (by simp)];exact h.1
 | [],_,_::_,_,h=>by simp [aB] at h
 | _::_,_,[],_,h=>by simp [aB] at h
theorem IM {κ:aP} {w:aA} {p:Pl} {get get':Nat->aj} {e:aa CT}:∀{j:Nat} {xs:aa (aa A)},(∀i,j<=i->i<j+xs.length*e.length->get' i=get i) ->
  dF κ w e p j get xs->dF κ w e p j get' xs
 | _,[],_,_=>by simp [dF]
 | j,x::xs,hg,h=>by
  simp only [dF] at h ⊢;have hl:(x::xs).length*e.length=xs.length*e.length+e.length:=by simp [eD]
  refine ⟨mD (fun i h1 h2=>hg i h1 (by omega)) h.1,IM (fun i h1 h2=>hg i (by omega) (by omega)) h.2⟩
def Same (w w':aA) (b:Nat):Prop:=(b<w.heap.size->b<w'.heap.size)/\∀o x,w.cell? ⟨b,o,none⟩=some x->w'.cell? ⟨b,o,none⟩=some x/\w'.frozen? ⟨b,o,none⟩=w.frozen? ⟨b,o,none⟩
theorem Same.refl (w:aA) (b:Nat):Same w w b:=⟨id,fun _ _ h=>⟨h,rfl⟩⟩
theorem Same.rdb {w w':aA} {b lo hi:Nat} (h:Same w w' b) (hr:Rdb w b lo hi):Rdb w' b lo hi:=
 fun o h1 h2=>let ⟨x,hx⟩:=hr o h1 h2;⟨x,(h.2 o x hx).1⟩
theorem Same.wrb {w w':aA} {b lo hi:Nat} (h:Same w w' b) (hr:Wrb w b lo hi):Wrb w' b lo hi:=
 fun o h1 h2=>let ⟨⟨x,hx⟩,hf⟩:=hr o h1 h2;⟨⟨x,(h.2 o x hx).1⟩,by rw [(h.2 o x hx).2];exact hf⟩
theorem Same.cD {w w':aA} {b lo hi o:Nat} (h:Same w w' b) (hr:Rdb w b lo hi) (h1:lo<=o) (h2:o<hi):cellD w' b o=cellD w b o:=by
 obtain ⟨x,hx⟩:=hr o h1 h2;simp [Fw.cellD,hx,(h.2 o x hx).1]
theorem Wrb.rdb {w:aA} {b lo hi:Nat} (h:Wrb w b lo hi):Rdb w b lo hi:=fun o h1 h2=>(h o h1 h2).1
theorem Wrb.sub {w:aA} {b lo hi lo' jw:Nat} (h:Wrb w b lo hi) (h1:lo<=lo') (h2:jw<=hi):Wrb w b lo' jw:=fun o g1 g2=>h o (by omega) (by omega)
theorem Rdb.sub {w:aA} {b lo hi lo' jw:Nat} (h:Rdb w b lo hi) (h1:lo<=lo') (h2:jw<=hi):Rdb w b lo' jw:=fun o g1 g2=>h o (by omega) (by omega)
section move
variable {κ κ':aP} {w w':aA} {f:aa Nat->aa Nat} {P:aa Nat->Prop}
mutual
theorem IP (bz:∀S,P S->∀b,bu κ w S b->bu κ' w' (f S) b/\Same w w' b):∀{c:CT} {p p':Pl} {x:aj} {a:A},c.allS P ->
  (∀b q,κ b=some (p.1,p.2++q)->κ' b=some (p'.1,p'.2++q)/\Same w w' b)->RC κ w c p x a->RC κ' w' (c.mapS f) p' x a
 | .d,p,p',x,.v y,_,_,h=>by rw [aAX];simp only [RC] at h ⊢;exact h
 | .sl (.own k) e,p,p',x,.s xs,hs,ho,h=>by
  rw [avT];simp only [RC,CT.allS] at h hs ⊢;obtain ⟨ao,cap,hx,dD,hc⟩:=h;refine ⟨ao,cap,hx,dD,?_⟩;rcases hc with hn|⟨b,o,rfl,wT,hb,hw,he⟩
  ·exact .inl hn
  ·obtain ⟨di,gy⟩:=ho b [] (by simpa using hb);have hr:=hw.rdb;refine .inr ⟨b,o,rfl,gy.1 wT,by simpa using di,by rw [gM];exact gy.wrb hw,?_⟩;refine IM (fun i _ hi => ?_) (Kb bz hs ho he);rw [gM] at hi;have:=jg e.length dD;exact gy.cD hr (by omega) (by omega)
 | .sl (.ro S) e,p,p',x,.s xs,hs,ho,h=>by
  rw [azD];simp only [RC,CT.allS] at h hs ⊢;obtain ⟨ao,cap,hx,dD,hc⟩:=h;refine ⟨ao,cap,hx,dD,?_⟩;rcases hc with hn|⟨b,o,rfl,hb,hr,he⟩
  ·exact .inl hn
  ·obtain ⟨di,gy⟩:=bz S hs.1 b hb;refine .inr ⟨b,o,rfl,di,by rw [gM];exact gy.rdb hr,?_⟩;refine IM (fun i _ hi => ?_) (Kb bz hs.2 ho he);rw [gM] at hi;exact gy.cD hr (by omega) (by omega)
 | .sl .dead e,p,p',x,a,_,_,_=>by rw [arY];cases a<;>simp [RC]
 | .d,_,_,_,.s _,_,_,h=>by simp [RC] at h
 | .sl (.own _) _,_,_,_,.v _,_,_,h=>by simp [RC] at h
 | .sl (.ro _) _,_,_,_,.v _,_,_,h=>by simp [RC] at h
theorem agQ (bz:∀S,P S->∀b,bu κ w S b->bu κ' w' (f S) b/\Same w w' b):∀{cs:aa CT} {p p':Pl} {j:Nat} {get:Nat->aj} {as:aa A},CT.allSs P cs ->
  (∀b q,κ b=some (p.1,p.2++q)->κ' b=some (p'.1,p'.2++q)/\Same w w' b)->aB κ w cs p j get as->aB κ' w' (CT.mapSs f cs) p' j get as
 | [],_,_,_,_,[],_,_,_=>by simp [CT.mapSs,aB]
 | c::cs,p,p',j,get,a::as,hs,ho,h=>by
  simp only [CT.mapSs,CT.allSs,aB] at h hs ⊢;refine ⟨IP bz hs.1 (fun b q hb => ?_) h.1,agQ bz hs.2 ho h.2⟩;have:=ho b (j::q) (by simpa [Pl.at] using hb);simpa [Pl.at] using this
 | [],_,_,_,_,_::_,_,_,h=>by simp [aB] at h
 | _::_,_,_,_,_,[],_,_,h=>by simp [aB] at h
theorem Kb (bz:∀S,P S->∀b,bu κ w S b->bu κ' w' (f S) b/\Same w w' b):∀{e:aa CT} {p p':Pl} {j:Nat} {get:Nat->aj} {xs:aa (aa A)},CT.allSs P e ->
  (∀b q,κ b=some (p.1,p.2++q)->κ' b=some (p'.1,p'.2++q)/\Same w w' b)->dF κ w e p j get xs->dF κ' w' (CT.mapSs f e) p' j get xs
 | _,_,_,_,_,[],_,_,_=>by simp [dF]
 | e,p,p',j,get,x::xs,hs,ho,h=>by
  simp only [dF] at h ⊢;rw [gM];exact ⟨agQ bz hs ho h.1,Kb bz hs ho h.2⟩
end
end move
section look
variable {κ:aP} {w:aA} {S:aa Nat}
theorem FZ {S':aa Nat} {b:Nat} (h:bu κ w S b) (hs:∀r,r∈S->r∈S'):bu κ w S' b:=⟨h.1,fun r p hb=>⟨hs r (h.2 r p hb).1,(h.2 r p hb).2⟩⟩
theorem al5 {b:Nat} {p:Pl} (hb:b<w.heap.size) (h:κ b=some p) (hp:p.1∈S) (h0:p.2≠[]):bu κ w S b:=⟨hb,fun r q hb=>by rw [h] at hb;cases hb;exact ⟨hp,h0⟩⟩
mutual
theorem aoD:∀{c:CT} {p p':Pl} {x:aj} {a:A},c.live=true->p.1∈S->p.2≠[]->c.allS (fun S0=>∀r,r∈S0->r∈S)->RC κ w c p x a->RC κ w (c.roize S) p' x a
 | .d,_,_,_,.v _,_,_,_,_,h=>by simp only [CT.roize,RC] at h ⊢;exact h
 | .sl (.own k) e,p,p',x,.s xs,hl,hp,h0,hs,h=>by
  simp only [CT.roize,RC,CT.allS,CT.live] at h hs hl ⊢;obtain ⟨ao,cap,hx,dD,hc⟩:=h;refine ⟨ao,cap,hx,dD,?_⟩;rcases hc with ⟨rfl,rfl⟩|⟨b,o,rfl,wT,hb,hw,he⟩
  ·exact .inl (nz.1 (by omega))
  ·have:=jg e.length dD;refine .inr ⟨b,o,rfl,al5 wT hb hp h0,by rw [dE];exact hw.rdb.sub (dV _) (by omega),?_⟩;exact agR hl hp hs he
 | .sl (.ro S0) e,p,p',x,.s xs,hl,hp,h0,hs,h=>by
  simp only [CT.roize,RC,CT.allS,CT.live] at h hs hl ⊢;obtain ⟨ao,cap,hx,dD,hc⟩:=h;refine ⟨ao,cap,hx,dD,?_⟩;rcases hc with hn|⟨b,o,rfl,hb,hr,he⟩
  ·exact .inl hn
  ·exact .inr ⟨b,o,rfl,FZ hb hs.1,by rw [dE];exact hr,agR hl hp hs.2 he⟩
 | .sl .dead e,_,_,_,_,hl,_,_,_,_=>by simp [CT.live] at hl
 | .d,_,_,_,.s _,_,_,_,_,h=>by simp [RC] at h
 | .sl (.own _) _,_,_,_,.v _,_,_,_,_,h=>by simp [RC] at h
 | .sl (.ro _) _,_,_,_,.v _,_,_,_,_,h=>by simp [RC] at h
theorem arZ:∀{cs:aa CT} {p p':Pl} {j:Nat} {get:Nat->aj} {as:aa A},CT.lives cs=true->p.1∈S->CT.allSs (fun S0=>∀r,r∈S0->r∈S) cs ->
  aB κ w cs p j get as->aB κ w (CT.roizes S cs) p' j get as
 | [],_,_,_,_,[],_,_,_,_=>by simp [CT.roizes,aB]
 | c::cs,p,p',j,get,a::as,hl,hp,hs,h=>by
  simp only [CT.roizes,CT.allSs,CT.lives,aB,aM] at h hs hl ⊢;exact ⟨aoD (p:=p.at j) hl.1 hp (by simp [Pl.at]) hs.1 h.1,arZ hl.2 hp hs.2 h.2⟩
 | [],_,_,_,_,_::_,_,_,_,h=>by simp [aB] at h
 | _::_,_,_,_,_,[],_,_,_,h=>by simp [aB] at h
theorem agR:∀{e:aa CT} {p p':Pl} {j:Nat} {get:Nat->aj} {xs:aa (aa A)},CT.lives e=true->p.1∈S->CT.allSs (fun S0=>∀r,r∈S0->r∈S) e ->
  dF κ w e p j get xs->dF κ w (CT.roizes S e) p' j get xs
 | _,_,_,_,_,[],_,_,_,_=>by simp [dF]
 | e,p,p',j,get,x::xs,hl,hp,hs,h=>by
  simp only [dF] at h ⊢;rw [dE];exact ⟨arZ hl hp hs h.1,agR hl hp hs h.2⟩
end
end look
end Go.Fw
namespace Go.Fw
theorem mG {κ:aP} {w:aA} {p:Pl} {get:Nat->aj}:∀(k:Nat) {cs:aa CT} {j:Nat} {as:aa A},aB κ w cs p j get as ->
  aB κ w (cs.drop k) p (j+k) get (as.drop k)
 | 0,_,_,_,h=>by simpa using h
 | k+1,[],j,[],_=>by simp [aB]
 | k+1,c::cs,j,a::as,h=>by
  simp only [aB] at h;have:=mG k h.2;simpa [Nat.add_comm,R3,jm] using this
 | _+1,[],_,_::_,h=>by simp [aB] at h
 | _+1,_::_,_,[],h=>by simp [aB] at h
theorem mH {κ:aP} {w:aA} {p:Pl} {get:Nat->aj}:∀(k:Nat) {cs:aa CT} {j:Nat} {as:aa A},aB κ w cs p j get as ->
  aB κ w (cs.take k) p j get (as.take k)
 | 0,_,_,_,_=>by simp [aB]
 | k+1,[],j,[],_=>by simp [aB]
 | k+1,c::cs,j,a::as,h=>by
  simp only [aB,CU] at h ⊢;exact ⟨h.1,mH k h.2⟩
 | _+1,[],_,_::_,h=>by simp [aB] at h
 | _+1,_::_,_,[],h=>by simp [aB] at h
theorem C9 {κ:aP} {w:aA} {p:Pl} {get:Nat->aj}:∀{cs:aa CT} {j:Nat} {as:aa A} {cs':aa CT} {as':aa A},aB κ w cs p j get as ->
  aB κ w cs' p (j+cs.length) get as'->aB κ w (cs++cs') p j get (as++as')
 | [],j,[],_,_,_,h'=>by simpa using h'
 | c::cs,j,a::as,cs',as',h,h'=>by
  simp only [aB,nC] at h ⊢;exact ⟨h.1,C9 h.2 (by simpa [Nat.add_comm,R3,jm] using h')⟩
 | [],_,_::_,_,_,h,_=>by simp [aB] at h
 | _::_,_,[],_,_,h,_=>by simp [aB] at h
theorem gZ {κ:aP} {w:aA} {p:Pl} {get:Nat->aj}:∀{cs:aa CT} {j:Nat} {as:aa A} {k:Nat} {c:CT} {a:A},aB κ w cs p j get as ->
  cs[k]?=some c->as[k]?=some a->RC κ w c (p.at (j+k)) (get (j+k)) a
 | c::cs,j,a::as,0,c',a',h,hc,ha=>by
  simp only [aB] at h;simp at hc ha;subst hc;subst ha;exact h.1
 | c::cs,j,a::as,k+1,c',a',h,hc,ha=>by
  simp only [aB] at h;have:=gZ (k:=k) h.2 (by simpa using hc) (by simpa using ha);simpa [Nat.add_comm,R3,jm] using this
 | [],_,_,_,_,_,_,hc,_=>by simp at hc
 | _::_,_,[],_,_,_,_,_,ha=>by simp at ha
theorem lY {κ:aP} {w:aA} {p:Pl} {get:Nat->aj}:∀{cs:aa CT} {j:Nat} {as:aa A},as.length=cs.length ->
  (∀k c a,cs[k]?=some c->as[k]?=some a->RC κ w c (p.at (j+k)) (get (j+k)) a)->aB κ w cs p j get as
 | [],_,[],_,_=>by simp [aB]
 | c::cs,j,a::as,hl,h=>by
  simp only [aB];refine ⟨by simpa using h 0 c a rfl rfl,lY (by simpa using hl) fun k c' a' hc ha => ?_⟩;have:=h (k+1) c' a' (by simpa using hc) (by simpa using ha);simpa [Nat.add_comm,R3,jm] using this
 | [],_,_::_,hl,_=>by simp at hl
 | _::_,_,[],hl,_=>by simp at hl
theorem qD {κ:aP} {w:aA} {p:Pl} {get:Nat->aj} {e:aa CT}:∀{j:Nat} {xs:aa (aa A)} {i:Nat} {x:aa A},dF κ w e p j get xs ->
  xs[i]?=some x->aB κ w e p (j+i*e.length) get x
 | _,x::xs,0,x',h,hx=>by
  simp only [dF] at h;simp at hx;subst hx;simpa using h.1
 | j,x::xs,i+1,x',h,hx=>by
  simp only [dF] at h;have:=qD (i:=i) h.2 (by simpa using hx);rw [eD,A_];rw [show j+(i*e.length+e.length)=j+e.length+i*e.length from by omega];exact this
 | _,[],_,_,_,hx=>by simp at hx
theorem wY {κ:aP} {w:aA} {p:Pl} {get:Nat->aj} {e:aa CT}:∀{j:Nat} {xs:aa (aa A)},
  (∀i x,xs[i]?=some x->aB κ w e p (j+i*e.length) get x)->dF κ w e p j get xs
 | _,[],_=>by simp [dF]
 | j,x::xs,h=>by
  simp only [dF];refine ⟨by simpa using h 0 x rfl,wY fun i y hy => ?_⟩;have:=h (i+1) y (by simpa using hy);rw [eD,A_] at this;rw [show j+e.length+i*e.length=j+(i*e.length+e.length) from by omega];exact this
theorem aoE {κ:aP} {w:aA} {p:Pl} {get:Nat->aj} {e:aa CT} {xs ys:aa (aa A)} {j:Nat} (h:dF κ w e p j get xs)
  (h':dF κ w e p (j+xs.length*e.length) get ys):dF κ w e p j get (xs++ys):=by
 refine wY fun i x hx => ?_
 rw [List.getElem?_append] at hx;split at hx
 ·exact qD h hx
 ·have:=qD h' hx;rename_i hi;have e1:j+xs.length*e.length+(i-xs.length)*e.length=j+i*e.length:=by
   have:i=xs.length+(i-xs.length):=by omega
   conv=>rhs;rw [this]
   rw [eD];omega
  rw [e1] at this;exact this
theorem R7 {κ:aP} {w:aA} {S:aa Nat} {p p':Pl} {get get':Nat->aj} {cs:aa CT} {j j':Nat} {as:aa A} (hl:CT.lives cs=true) (hp:p.1∈S)
  (hs:CT.allSs (fun S0=>∀r,r∈S0->r∈S) cs) (hg:∀i,i<cs.length->get' (j'+i)=get (j+i)) (h:aB κ w cs p j get as):aB κ w (CT.roizes S cs) p' j' get' as:=by
 induction cs generalizing j j' as with
 | nil=>cases as with
  | nil=>simp [CT.roizes,aB]
  | cons=>simp [aB] at h
 | cons c cs ih=>
  cases as with
  | nil=>simp [aB] at h
  | cons a as=>
   simp only [CT.roizes,CT.allSs,CT.lives,aB,aM] at h hs hl ⊢;refine ⟨?_,ih hl.2 hs.2 (fun i hi => ?_) h.2⟩
   ·have:=hg 0 (by simp);simp at this;rw [this];exact aoD (p:=p.at j) hl.1 hp (by simp [Pl.at]) hs.1 h.1
   ·have:=hg (i+1) (by simpa using hi);simpa [Nat.add_comm,R3,jm] using this
theorem gH {κ κ':aP} {w w':aA} {f:aa Nat->aa Nat} {P:aa Nat->Prop} {p p':Pl} {get get':Nat->aj} {cs:aa CT} {j j':Nat} {as:aa A}
  (bz:∀S,P S->∀b,bu κ w S b->bu κ' w' (f S) b/\Same w w' b) (hs:CT.allSs P cs)
  (ho:∀i,i<cs.length->∀b q,κ b=some (p.1,p.2++(j+i)::q)->κ' b=some (p'.1,p'.2++(j'+i)::q)/\Same w w' b)
  (hg:∀i,i<cs.length->get' (j'+i)=get (j+i)) (h:aB κ w cs p j get as):aB κ' w' (CT.mapSs f cs) p' j' get' as:=by
 induction cs generalizing j j' as with
 | nil=>cases as with
  | nil=>simp [CT.mapSs,aB]
  | cons=>simp [aB] at h
 | cons c cs ih=>
  cases as with
  | nil=>simp [aB] at h
  | cons a as=>
   simp only [CT.mapSs,CT.allSs,aB] at h hs ⊢;refine ⟨?_,ih hs.2 (fun i hi b q hb => ?_) (fun i hi => ?_) h.2⟩
   ·have:=hg 0 (by simp);simp at this;rw [this];refine IP bz hs.1 (fun b q hb => ?_) h.1;have:=ho 0 (by simp) b q (by simpa [Pl.at] using hb);simpa [Pl.at] using this
   ·have:=ho (i+1) (by simpa using hi) b q (by rw [show j+(i+1)=j+1+i from by omega];exact hb);rw [show j'+1+i=j'+(i+1) from by omega];exact this
   ·have:=hg (i+1) (by simpa using hi);rw [show j'+1+i=j'+(i+1) from by omega,show j+1+i=j+(i+1) from by omega];exact this
abbrev Sk:=List (Nat × Nat)
def b_:aa A->Sk->aa Nat->ah (aa A)
 | as,[],[]=>some as
 | as,(c,_)::sk,i::is=>match as[c]? with
  | some (.s xs)=>match xs[i]? with
   | some x=>b_ x sk is
   | none=>none
  | _=>none
 | _,_,_=>none
def lJ:aa A->Sk->aa Nat->aa A->aa A
 | _,[],_,x=>x
 | as,(c,_)::sk,i::is,x=>match as[c]? with
  | some (.s xs)=>match xs[i]? with
   | some y=>as.set c (.s (xs.set i (lJ y sk is x)))
   | none=>as
  | _=>as
 | as,_,_,_=>as
def iF (own:Bool):aa CT->Sk->ah (aa CT)
 | cs,[]=>some cs
 | cs,(c,n)::sk=>match cs[c]? with
  | some (.sl (.own _) e)=>if e.length=n then iF own e sk else none
  | some (.sl (.ro _) e)=>if e.length=n/\own=false then iF own e sk else none
  | _=>none
def wk (w:aA):(Nat->aj)->ah (Nat × Nat)->Sk->aa Nat->ah (Nat × Nat)
 | _,bo,[],[]=>bo
 | get,_,(c,n)::sk,i::is=>match get c with
  | .slice (some ⟨b,o,none⟩) len _=>if i<len then wk w (fun k=>cellD w b (o+i*n+k)) (some (b,o+i*n)) sk is else none
  | _=>none
 | _,_,_,_=>none
def bX (p:aa Nat) (j:Nat):Sk->aa Nat->aa Nat × Nat
 | (c,n)::sk,i::is=>bX (p++[j+c]) (i*n) sk is
 | _,_=>(p,j)
theorem wZ:∀(sk:Sk) (is p:aa Nat) (j:Nat),p <+: (bX p j sk is).1
 | [],_,p,j=>by simp [bX]
 | (c,n)::sk,[],p,j=>by simp [bX]
 | (c,n)::sk,i::is,p,j=>by
  simp only [bX];exact List.IsPrefix.trans (List.prefix_append p [j+c]) (wZ sk is _ _)
theorem DL {κ:aP} {w:aA} {r:Nat}:∀{sk:Sk} {is:aa Nat} {cs:aa CT} {p:aa Nat} {j:Nat} {get:Nat->aj} {as x:aa A} {e:aa CT} {bo:ah (Nat × Nat)},
  sk≠[]->aB κ w cs (r,p) j get as->iF true cs sk=some e->b_ as sk is=some x ->
  ∃b o,wk w (fun k=>get (j+k)) bo sk is=some (b,o+(bX p j sk is).2)/\κ b=some (r,(bX p j sk is).1)/\Wrb w b (o+(bX p j sk is).2) (o+(bX p j sk is).2+e.length) /\
   aB κ w e (r,(bX p j sk is).1) (bX p j sk is).2 (fun k=>cellD w b (o+k)) x
 | [],_,_,_,_,_,_,_,_,_,h,_,_,_=>absurd rfl h
 | (c,n)::sk,[],_,_,_,_,_,_,_,_,_,_,_,hl=>by simp [b_] at hl
 | (c,n)::sk,i::is,cs,p,j,get,as,x,e,bo,_,h,ht,hl=>by
  simp only [b_] at hl;split at hl;case h_2=>simp at hl
  case h_1 xs ha=>
  split at hl;case h_2=>simp at hl
  case h_1 y hy=>
  simp only [iF] at ht;split at ht;case h_3=>simp at ht
  case h_2=>simp at ht
  case h_1 k0 e0 hc=>
  split at ht;case isFalse=>simp at ht
  case isTrue hn=>
  have hi:i<xs.length:=(bn hy).1;have h1:=gZ h hc ha;simp only [RC] at h1;obtain ⟨ao,cap,hx,dD,tZ⟩:=h1;rcases tZ with ⟨_,rfl⟩|⟨b,o,rfl,wT,hb,hw,he⟩
  ·omega
  ·have cZ:=qD he hy;rw [hn] at cZ hw;simp only [cB] at cZ;simp only [wk,hx,if_pos hi,bX];cases sk with
   | nil=>
    simp only [iF,aK] at ht;subst ht;cases is with
    | cons=>simp [b_] at hl
    | nil=>
     simp only [b_,aK] at hl;subst hl;refine ⟨b,o,by simp [wk,bX],by simpa [bX,Pl.at] using hb,?_,?_⟩
     ·simp only [bX,hn];refine hw.sub (by omega) ?_;have:=jg n (show i+1<=cap by omega);rw [eD] at this;omega
     ·simpa [bX,Pl.at] using cZ
   | cons s sk=>
    have vC:aB κ w e0 (r,p++[j+c]) (i*n) (fun k=>cellD w b (o+k)) y:=by simpa [Pl.at] using cZ
    obtain ⟨b',o',Rx,rest⟩:=DL (sk:=s::sk) (bo:=some (b,o+i*n)) (by simp) vC ht hl;refine ⟨b',o',?_,rest⟩;rw [<-Rx];congr 1;funext k;rw [jm]
theorem ar0 {κ:aP} {w:aA} {r:Nat}:∀{sk:Sk} {is:aa Nat} {cs:aa CT} {p:aa Nat} {j:Nat} {get:Nat->aj} {as x:aa A} {e:aa CT} {bo:ah (Nat × Nat)},
  sk≠[]->aB κ w cs (r,p) j get as->iF false cs sk=some e->b_ as sk is=some x ->
  ∃b o,wk w (fun k=>get (j+k)) bo sk is=some (b,o+(bX p j sk is).2)/\Rdb w b (o+(bX p j sk is).2) (o+(bX p j sk is).2+e.length) /\
   aB κ w e (r,(bX p j sk is).1) (bX p j sk is).2 (fun k=>cellD w b (o+k)) x
 | [],_,_,_,_,_,_,_,_,_,h,_,_,_=>absurd rfl h
 | (c,n)::sk,[],_,_,_,_,_,_,_,_,_,_,_,hl=>by simp [b_] at hl
 | (c,n)::sk,i::is,cs,p,j,get,as,x,e,bo,_,h,ht,hl=>by
  simp only [b_] at hl
  split at hl
  case h_2=>simp at hl
  case h_1 xs ha=>
  split at hl
  case h_2=>simp at hl
  case h_1 y hy=>
  have hi:i<xs.length:=(bn hy).1
  obtain ⟨m,e0,b,o,cap,hc,hn,m_,hx,hr,he⟩:∃m e0 b o cap,cs[c]?=some (.sl m e0)/\e0.length=n/\iF false e0 sk=some e/\get (j+c) = .slice (some ⟨b,o,none⟩) xs.length cap /\
    Rdb w b o (o+xs.length*n)/\dF κ w e0 (r,p++[j+c]) 0 (fun k=>cellD w b (o+k)) xs:=by
   simp only [iF] at ht;split at ht;case h_3=>simp at ht
   case h_1 k0 e0 hc=>
    split at ht;case isFalse=>simp at ht
    case isTrue hn=>
    have h1:=gZ h hc ha;simp only [RC] at h1;obtain ⟨ao,cap,hx,dD,tZ⟩:=h1;rcases tZ with ⟨_,rfl⟩|⟨b,o,rfl,wT,hb,hw,he⟩
    ·omega
    ·have:=jg n dD;exact ⟨_,e0,b,o,cap,hc,hn,ht,hx,by rw [hn] at hw;exact hw.rdb.sub (dV _) (by omega),by simpa [Pl.at] using he⟩
   case h_2 S e0 hc=>
    split at ht;case isFalse=>simp at ht
    case isTrue hn=>
    have h1:=gZ h hc ha;simp only [RC] at h1;obtain ⟨ao,cap,hx,dD,tZ⟩:=h1;rcases tZ with rfl|⟨b,o,rfl,hb,hr,he⟩
    ·simp at hi
    ·exact ⟨_,e0,b,o,cap,hc,hn.1,ht,hx,by rw [hn.1] at hr;exact hr,by simpa [Pl.at] using he⟩
  have cZ:=qD he hy
  rw [hn] at cZ
  simp only [cB] at cZ
  simp only [wk,hx,if_pos hi,bX]
  cases sk with
  | nil=>
   simp only [iF,aK] at m_
   subst m_
   cases is with
   | cons=>simp [b_] at hl
   | nil=>
    simp only [b_,aK] at hl
    subst hl
    refine ⟨b,o,by simp [wk,bX],?_,?_⟩
    ·simp only [bX,hn]
     refine hr.sub (by omega) ?_
     have:=jg n (show i+1<=xs.length by omega)
     rw [eD] at this;omega
    ·simpa [bX,Pl.at] using cZ
  | cons s sk=>
   obtain ⟨b',o',Rx,rest⟩:=ar0 (sk:=s::sk) (bo:=some (b,o+i*n)) (by simp) cZ m_ hl
   refine ⟨b',o',?_,rest⟩
   rw [<-Rx]
   congr 1
   funext k;rw [jm]
end Go.Fw
namespace Go.Fw
mutual
theorem R8:∀c:CT,c.mapS id=c
 | .d=>by simp [CT.mapS]
 | .sl (.ro S) e=>by simp [CT.mapS,iU e]
 | .sl (.own _) e=>by simp [CT.mapS,iU e]
 | .sl .dead e=>by simp [CT.mapS,iU e]
theorem iU:∀cs:aa CT,CT.mapSs id cs=cs
 | []=>by simp [CT.mapSs]
 | c::cs=>by simp [CT.mapSs,R8 c,iU cs]
end
theorem Oh {P:aa Nat->Prop}:∀{cs:aa CT} {k:Nat} {c:CT},CT.allSs P cs->cs[k]?=some c->c.allS P
 | c::cs,0,c',h,hc=>by simp at hc;subst hc;simp only [CT.allSs] at h;exact h.1
 | c::cs,k+1,c',h,hc=>by simp only [CT.allSs] at h;exact Oh h.2 (by simpa using hc)
 | [],_,_,_,hc=>by simp at hc
theorem wu {κ κ':aP} {w w':aA} {c:CT} {p:Pl} {x:aj} {a:A} (hs:c.allS (fun S=>∀b,bu κ w S b->bu κ' w' S b/\Same w w' b))
  (ho:∀b q,κ b=some (p.1,p.2++q)->κ' b=κ b/\Same w w' b) (h:RC κ w c p x a):RC κ' w' c p x a:=by
 have:=IP (f:=id) (P:=fun S=>∀b,bu κ w S b->bu κ' w' S b/\Same w w' b) (κ':=κ') (w':=w') (p':=p) (fun S hS b hb=>hS b hb) hs
  (fun b q hb=>⟨by rw [(ho b q hb).1];exact hb,(ho b q hb).2⟩) h
 rwa [R8] at this
theorem Vr {κ κ':aP} {w w':aA} {cs:aa CT} {p:Pl} {j:Nat} {get get':Nat->aj} {as:aa A} (hs:CT.allSs (fun S=>∀b,bu κ w S b->bu κ' w' S b/\Same w w' b) cs)
  (ho:∀i,i<cs.length->∀b q,κ b=some (p.1,p.2++(j+i)::q)->κ' b=κ b/\Same w w' b) (hg:∀i,i<cs.length->get' (j+i)=get (j+i)) (h:aB κ w cs p j get as) :
  aB κ' w' cs p j get' as:=by
 have:=gH (f:=id) (P:=fun S=>∀b,bu κ w S b->bu κ' w' S b/\Same w w' b) (κ':=κ') (w':=w') (p':=p) (j':=j) (get':=get') (fun S hS b hb=>hS b hb) hs
  (fun i hi b q hb=>⟨by rw [(ho i hi b q hb).1];exact hb,(ho i hi b q hb).2⟩) hg h
 rwa [iU] at this
theorem Kc:∀(sk:Sk) (is p:aa Nat) (j:Nat),sk≠[]->is≠[]->p.length<(bX p j sk is).1.length
 | [],_,_,_,h,_=>absurd rfl h
 | _::_,[],_,_,_,h=>absurd rfl h
 | (c,n)::sk,i::is,p,j,_,_=>by
  simp only [bX];have:=(wZ sk is (p++[j+c]) (i*n)).length_le;simp at this;omega
theorem nE {p q:aa Nat} {x y:Nat} (h:p++[x] <+: p++y::q):x=y:=by
 rw [List.prefix_append_right_inj] at h;simpa using h
theorem IQ {κ κ':aP} {w w':aA} {r:Nat}:∀{sk:Sk} {is:aa Nat} {cs:aa CT} {p:aa Nat} {j:Nat} {get:Nat->aj} {as x x':aa A} {e:aa CT}
  {bo:ah (Nat × Nat)} {B O:Nat},
  sk≠[]->aB κ w cs (r,p) j get as->iF true cs sk=some e->b_ as sk is=some x->wk w (fun k=>get (j+k)) bo sk is=some (B,O) ->
  CT.allSs (fun S=>∀b,bu κ w S b->bu κ' w' S b/\Same w w' b) cs ->
  (∀b q,κ b=some (r,q)->b≠B->(∀k,k<e.length->¬(bX p j sk is).1++[(bX p j sk is).2+k] <+: q)->κ' b=κ b/\Same w w' b) ->
  (∀{b},b<w.heap.size->b<w'.heap.size)->κ' B=κ B->(∀o y,¬(O<=o/\o<O+e.length)->w.cell? ⟨B,o,none⟩=some y->w'.cell? ⟨B,o,none⟩=some y/\w'.frozen? ⟨B,o,none⟩=w.frozen? ⟨B,o,none⟩) ->
  Wrb w' B O (O+e.length) ->
  (∀o,O=o+(bX p j sk is).2->aB κ' w' e (r,(bX p j sk is).1) (bX p j sk is).2 (fun k=>cellD w' B (o+k)) x') ->
  aB κ' w' cs (r,p) j get (lJ as sk is x')
 | [],_,_,_,_,_,_,_,_,_,_,_,_,h,_,_,_,_,_,_,_,_,_,_,_=>absurd rfl h
 | (c,n)::sk,[],_,_,_,_,_,_,_,_,_,_,_,_,_,_,hl,_,_,_,_,_,_,_,_=>by simp [b_] at hl
 | (c,n)::sk,i::is,cs,p,j,get,as,x,x',e,bo,B,O,bv,h,ht,hl,Rx,hS,h1,dM,hB,lD,hW,h3=>by
  obtain ⟨B',o',axj,jk,_,_⟩:=DL (bo:=bo) bv h ht hl
  rw [Rx] at axj
  simp only [aK,bU] at axj
  obtain ⟨rfl,hO⟩:=axj
  have fe:=wZ sk is (p++[j+c]) (i*n)
  simp only [b_] at hl
  split at hl
  case h_2=>simp at hl
  case h_1 xs ha=>
  split at hl
  case h_2=>simp at hl
  case h_1 y hy=>
  simp only [iF] at ht
  split at ht
  case h_3=>simp at ht
  case h_2=>simp at ht
  case h_1 k0 e0 hc=>
  split at ht
  case isFalse=>simp at ht
  case isTrue hn=>
  have hi:i<xs.length:=(bn hy).1
  have mQ:c<as.length:=(bn ha).1
  have um:=gZ h hc ha
  simp only [RC] at um
  obtain ⟨ao,cap,hx,dD,tZ⟩:=um
  rcases tZ with ⟨_,rfl⟩|⟨b,o,rfl,wT,hb,hw,he⟩
  ·omega
  simp only [lJ,ha,hy]
  have bJ:=dH h
  refine lY (by simpa using bJ) fun k ct a' hk hka => ?_
  by_cases hkc:k=c
  ·subst hkc
   rw [hc] at hk;cases hk
   rw [agt mQ] at hka
   cases hka
   have hSc:=Oh hS hc
   simp only [CT.allS] at hSc
   have hbp:κ b=some (r,p++[j+k]):=by simpa [Pl.at] using hb
   -- the block of this slice
   have cZ:=qD he hy
   rw [hn] at cZ
   simp only [cB] at cZ
   simp only [bX] at h1 h3 hO jk
   simp only [wk,hx,if_pos hi] at Rx
   have pu:e0.length=n:=hn
   -- κ' and cells of this block
   have aj4:κ' b=κ b/\Wrb w' b o (o+cap*e0.length)/\(b<w.heap.size->b<w'.heap.size):=by
    by_cases oq:b=B
    ·refine ⟨by rw [oq];exact hB,fun o1 g1 g2 => ?_,dM⟩;obtain ⟨⟨y1,Ry⟩,hf1⟩:=hw o1 g1 g2;subst oq;by_cases hr:O<=o1/\o1<O+e.length
     ·exact hW o1 hr.1 hr.2
     ·have:=lD o1 y1 hr Ry;exact ⟨⟨y1,this.1⟩,by rw [this.2];exact hf1⟩
    ·have:=h1 b (p++[j+k]) hbp oq (fun k' _ JS=>by
      have:=JS.length_le
      have:=fe.length_le
      simp at *;omega)
     exact ⟨this.1,this.2.wrb hw,this.2.1⟩
   simp only [RC]
   refine ⟨_,cap,by rw [hx];simp,by simpa using dD,.inr ⟨b,o,rfl,aj4.2.2 wT,by rw [aj4.1];simpa [Pl.at] using hbp,aj4.2.1,?_⟩⟩
   -- its rows
   refine wY fun i' x1 hx1 => ?_
   simp only [cB]
   by_cases hii:i'=i
   ·subst hii
    rw [agt hi] at hx1
    cases hx1
    cases sk with
    | nil=>
     simp only [iF,aK] at ht
     subst ht
     cases is with
     | cons=>simp [b_] at hl
     | nil=>
      simp only [wk,aK,bU] at Rx
      obtain ⟨rfl,hO'⟩:=Rx
      simp only [lJ]
      have:=h3 o (by simp [bX];omega)
      rw [pu]
      simpa [bX,Pl.at] using this
    | cons s sk=>
     have pK:is≠[]:=by rintro rfl;cases s;simp [b_] at hl
     have vC:aB κ w e0 (r,p++[j+k]) (i'*n) (fun k=>cellD w b (o+k)) y:=by simpa [Pl.at] using cZ
     have agK:=Kc (s::sk) is (p++[j+k]) (i'*n) (by simp) pK
     have oq:b≠B:=by
      rintro rfl
      rw [hbp] at jk
      simp only [aK,bU,true_and] at jk
      rw [<-jk] at agK;omega
     have gy:Same w w' b:=(h1 b (p++[j+k]) hbp oq (fun k' _ JS=>by
      have:=JS.length_le
      simp at this agK;omega)).2
     have WV:=IQ (κ':=κ') (w':=w') (bo:=some (b,o+i'*n)) (B:=B) (O:=O) (by simp) vC ht hl
      (by rw [<-Rx];congr 1;funext k;rw [jm]) hSc h1 dM hB lD hW h3
     rw [pu]
     refine mD (fun i1 g1 g2 => ?_) (by simpa [Pl.at] using WV)
     refine gy.cD hw.rdb (by omega) ?_
     have:=jg n (show i'+1<=cap by omega)
     rw [eD] at this;rw [pu] at g2 ⊢;omega
   ·have aCE:xs[i']?=some x1:=by rw [List.getElem?_set_ne (fun h=>hii h.symm)] at hx1;exact hx1
    have jw:i'<xs.length:=(bn aCE).1
    have agL:=qD he aCE
    simp only [cB] at agL
    refine Vr hSc (fun k' mR b' q di => ?_) (fun k' mR => ?_) agL
    ·simp only [Pl.at] at di
     refine h1 b' _ di ?_ ?_
     ·rintro rfl
      rw [di] at jk
      simp only [aK,bU,true_and] at jk
      have Rz:=fe
      rw [<-jk] at Rz
      cases sk with
      | nil=>simp [bX] at jk
      | cons s sk=>
       cases is with
       | nil=>cases s;simp [b_] at hl
       | cons i2 is=>
        obtain ⟨c2,n2⟩:=s
        simp only [bX] at jk
        have hq:=wZ sk is ((p++[j+k])++[i*n+c2]) (i2*n2)
        rw [<-jk,fJ,fJ,List.prefix_append_right_inj] at hq
        simp at hq
        have hc2:c2<n:=by
         simp only [b_] at hl
         split at hl
         case h_2=>simp at hl
         case h_1 xs2 ha2=>
         have:=(bn ha2).1
         have:=dH cZ
         omega
        rw [pu] at mR hq
        have hq1:i'*n+k'=i*n+c2:=by omega
        rcases Nat.lt_or_gt_of_ne hii with bZ|NW
        ·have:=jg n (show i'+1<=i by omega);rw [eD] at this;omega
        ·have:=jg n (show i+1<=i' by omega);rw [eD] at this;omega
     ·intro k1 hk1 JS
      cases sk with
      | nil=>
       simp only [iF,aK] at ht
       subst ht
       simp only [bX] at JS
       have:i*n+k1=i'*n+k':=by
        rw [pu] at JS
        exact nE JS
       rw [pu] at mR hk1
       rcases Nat.lt_or_gt_of_ne hii with bZ|NW
       ·have:=jg n (show i'+1<=i by omega);rw [eD] at this;omega
       ·have:=jg n (show i+1<=i' by omega);rw [eD] at this;omega
      | cons s sk=>
       cases is with
       | nil=>cases s;simp [b_] at hl
       | cons i2 is=>
        obtain ⟨c2,n2⟩:=s
        simp only [bX] at JS
        have hq:=wZ sk is ((p++[j+k])++[i*n+c2]) (i2*n2)
        have hq2:=(hq.trans (List.prefix_append _ _)).trans JS
        have hq1:=nE hq2
        have hc2:c2<n:=by
         simp only [b_] at hl
         split at hl
         case h_2=>simp at hl
         case h_1 xs2 ha2=>
         have:=(bn ha2).1
         have:=dH cZ
         omega
        rw [pu] at mR hq1
        rcases Nat.lt_or_gt_of_ne hii with bZ|NW
        ·have:=jg n (show i'+1<=i by omega);rw [eD] at this;omega
        ·have:=jg n (show i+1<=i' by omega);rw [eD] at this;omega
    ·-- the cells of the other rows
     have bF:o+(i'*e0.length+k')<o+cap*e0.length:=by
      have:=jg e0.length (show i'+1<=cap by omega)
      rw [eD] at this;omega
     obtain ⟨⟨y1,Ry⟩,_⟩:=hw (o+(i'*e0.length+k')) (by omega) bF
     by_cases oq:b=B
     ·subst oq
      have ow:sk=[]:=by
       cases sk with
       | nil=>rfl
       | cons s sk=>
        exfalso
        have pK:is≠[]:=by rintro rfl;cases s;simp [b_] at hl
        have agK:=Kc (s::sk) is (p++[j+k]) (i*n) (by simp) pK
        rw [hbp] at jk
        simp only [aK,bU,true_and] at jk
        rw [<-jk] at agK;omega
      subst ow
      cases is with
      | cons=>simp [b_] at hl
      | nil=>
       simp only [wk,aK,bU] at Rx
       simp only [iF,aK] at ht
       subst ht
       have pz:¬(O<=o+(i'*e0.length+k')/\o+(i'*e0.length+k')<O+e0.length):=by
        rw [<-Rx.2,pu] at *
        rcases Nat.lt_or_gt_of_ne hii with bZ|NW
        ·have:=jg n (show i'+1<=i by omega);rw [eD] at this;omega
        ·have:=jg n (show i+1<=i' by omega);rw [eD] at this;omega
       have:=(lD _ y1 pz Ry).1
       simp [cellD,this,Ry]
     ·have gy:Same w w' b:=(h1 b (p++[j+k]) hbp oq (fun k' _ JS=>by
       have:=JS.length_le
       have:=fe.length_le
       simp at *;omega)).2
      simp [cellD,(gy.2 _ y1 Ry).1,Ry]
  ·rw [List.getElem?_set_ne (fun h=>hkc h.symm)] at hka
   have kg:=gZ h hk hka
   refine wu (Oh hS hk) (fun b' q di => ?_) kg
   simp only [Pl.at,fJ,Ap] at di
   simp only [bX] at h1 jk
   refine h1 b' _ di ?_ ?_
   ·rintro rfl
    rw [di] at jk
    simp only [aK,bU,true_and] at jk
    rw [<-jk] at fe
    have:=nE fe
    omega
   ·intro k1 _ JS
    have:=nE ((fe.trans (List.prefix_append _ _)).trans JS)
    omega
end Go.Fw
namespace Go.Fw
inductive AV where
 | v (as:List A) (is:List Nat)
 | p (is:List Nat)
 | n
inductive TT where
 | dead
 | val (ag:Bool) (cs:List CT)
 | alias (ag:Bool) (cs:List CT) (r:Nat) (sk:Sk) (off:Nat) (S:List Nat)
 | box (cs:List CT)
 | ptr (r:Nat) (sk:Sk) (off:Nat) (S:List Nat)
 | tup (ws:List (Bool × Nat)) (cs:List CT)
def cellsOf:Bool->aj->ah (aa aj)
 | true,.agg vs=>some vs.toList
 | true,_=>none
 | false,.agg _=>none
 | false,.tuple _=>none
 | false,x=>some [x]
def u_:aa (Bool × Nat)->aa aj->ah (aa aj)
 | [],[]=>some []
 | (g,n)::ws,x::xs=>match cellsOf g x,u_ ws xs with
  | some a,some b=>if a.length=n then some (a++b) else none
  | _,_=>none
 | _,_=>none
def rg (w:aA) (tag:TT) (x:aj) (k:Nat):aj:=
 match tag,x with
 | .val ag _,x=>((cellsOf ag x).getD []).getD k undef
 | .box _,.pointer (some a)=>cellD w a.block k
 | _,_=>undef
def rb (tag:TT) (x:aj):ah Nat:=
 match tag,x with
 | .box _,.pointer (some a)=>some a.block
 | _,_=>none
def gq (w:aA) (g:Nat->aj) (sk:Sk) (is:aa Nat):ah (Nat->aj):=
 match sk,is with
 | [],[]=>some g
 | [],_::_=>none
 | s::sk,is=>(wk w g none (s::sk) is).map fun bo=>fun k=>cellD w bo.1 (bo.2+k)
def iH (w:aA) (g:Nat->aj) (bo:ah Nat) (sk:Sk) (is:aa Nat):ah (Nat × Nat):=
 wk w g (bo.map fun b=>(b,0)) sk is
def PO (κ:aP) (w:aA) (S:aa Nat):(Nat->aj)->Sk->aa Nat->Prop
 | get,(c,n)::sk,i::is=>match get c with
  | .slice (some a) _ _=>bu κ w S a.block/\PO κ w S (fun k=>cellD w a.block (a.off+i*n+k)) sk is
  | _=>True
 | _,_,_=>True
def Agr (g g':Nat->aj):Prop:=∀k,g k≠undef->g' k=g k
theorem avU {w:aA} {b o:Nat} (h:cellD w b o≠undef):∃x,w.cell? ⟨b,o,none⟩=some x/\cellD w b o=x:=by
 unfold cellD at h ⊢;cases hc:w.cell? ⟨b,o,none⟩ with
 | none=>simp [hc] at h
 | some x=>exact ⟨x,rfl,rfl⟩
theorem Same.agr {w w':aA} {b:Nat} (h:Same w w' b) (f:Nat->Nat):Agr (fun k=>cellD w b (f k)) (fun k=>cellD w' b (f k)):=by
 intro k hk;obtain ⟨x,hx,_⟩:=avU hk;simp [cellD,hx,(h.2 _ x hx).1]
theorem zq {κ κ':aP} {w w':aA} {S:aa Nat} (bz:∀b,bu κ w S b->bu κ' w' S b/\Same w w' b) :
  ∀{sk:Sk} {is:aa Nat} {g g':Nat->aj} {bo:ah (Nat × Nat)} {BO:Nat × Nat},Agr g g'->PO κ w S g sk is->wk w g bo sk is=some BO ->
  wk w' g' bo sk is=some BO/\PO κ' w' S g' sk is
 | [],[],_,_,_,_,_,_,h=>by simp only [wk,PO] at h ⊢;exact ⟨h,trivial⟩
 | [],_::_,_,_,_,_,_,_,h=>by simp [wk] at h
 | _::_,[],_,_,_,_,_,_,h=>by simp [wk] at h
 | (c,n)::sk,i::is,g,g',bo,BO,hg,hp,h=>by
  simp only [wk] at h;split at h;case h_2=>simp at h
  case h_1 b o len cap hx=>
  split at h;case isFalse=>simp at h
  case isTrue hi=>
  have zh:g' c = .slice (some ⟨b,o,none⟩) len cap:=by rw [hg c (by rw [hx];simp [undef]),hx]
  simp only [PO,hx] at hp;obtain ⟨di,gy⟩:=bz b hp.1;have WV:=zq bz (g':=fun k=>cellD w' b (o+i*n+k)) (gy.agr fun k=>o+i*n+k) hp.2 h;simp only [wk,PO,zh,if_pos hi];exact ⟨WV.1,di,WV.2⟩
theorem al6 {κ:aP} {w:aA} {S:aa Nat}:∀{sk:Sk} {is:aa Nat} {g:Nat->aj} {bo:ah (Nat × Nat)} {B O:Nat},sk≠[]->PO κ w S g sk is->wk w g bo sk is=some (B,O)->bu κ w S B
 | [],_,_,_,_,_,h,_,_=>absurd rfl h
 | _::_,[],_,_,_,_,_,_,h=>by simp [wk] at h
 | (c,n)::sk,i::is,g,bo,B,O,_,hp,h=>by
  simp only [wk] at h;split at h;case h_2=>simp at h
  case h_1 b o len cap hx=>
  split at h;case isFalse=>simp at h
  case isTrue hi=>
  simp only [PO,hx] at hp;cases sk with
  | nil=>
   cases is with
   | nil=>simp only [wk,aK,bU] at h;rw [<-h.1];exact hp.1
   | cons=>simp [wk] at h
  | cons s sk=>exact al6 (by simp) hp.2 h
mutual
def CT.men (M:aa Nat):CT->Bool
 | .d=>false
 | .sl (.ro S) e=>S.any (M.contains ·) || CT.mens M e
 | .sl _ e=>CT.mens M e
def CT.mens (M:aa Nat):aa CT->Bool
 | []=>false
 | c::cs=>c.men M || CT.mens M cs
end
def oH (M:aa Nat) (c:CT):CT:=
 if c.men M then match c with
  | .sl _ e=>.sl .dead e
  | .d=>.d
 else c
def meets (S M:aa Nat):Bool:=S.any (M.contains ·)
def TT.kill (mods M:aa Nat):TT->TT
 | .dead=>.dead
 | .val ag cs=>.val ag (cs.map (oH M))
 | .box cs=>.box (cs.map (oH M))
 | .tup ws cs=>.tup ws (cs.map (oH M))
 | .alias ag cs r sk off S=>if mods.contains r || meets S M || CT.mens M cs then .dead else .alias ag cs r sk off S
 | .ptr r sk off S=>if mods.contains r || meets S M then .dead else .ptr r sk off S
theorem Ht {S M:aa Nat} (h:meets S M=false):∀m,m∈M->m∉S:=by
 intro m hm hs;simp only [meets,R4] at h;exact h m hs (by simpa using hm)
mutual
theorem zt {M:aa Nat} {P:aa Nat->Prop} (hP:∀S,(∀m,m∈M->m∉S)->P S):∀{c:CT},c.men M=false->c.allS P
 | .d,_=>by simp [CT.allS]
 | .sl (.ro S) e,h=>by
  simp only [CT.men,nA] at h;simp only [CT.allS];exact ⟨hP S (Ht h.1),fw hP h.2⟩
 | .sl (.own _) e,h=>by simp only [CT.men] at h;simp only [CT.allS];exact fw hP h
 | .sl .dead e,h=>by simp only [CT.men] at h;simp only [CT.allS];exact fw hP h
theorem fw {M:aa Nat} {P:aa Nat->Prop} (hP:∀S,(∀m,m∈M->m∉S)->P S):∀{cs:aa CT},CT.mens M cs=false->CT.allSs P cs
 | [],_=>by simp [CT.allSs]
 | c::cs,h=>by
  simp only [CT.mens,nA] at h;simp only [CT.allSs];exact ⟨zt hP h.1,fw hP h.2⟩
end
section stay
variable {κ κ':aP} {w w':aA} {mods M:aa Nat}
theorem Ke {p:Pl} {get get':Nat->aj} (bz:∀S,(∀m,m∈M->m∉S)->∀b,bu κ w S b->bu κ' w' S b/\Same w w' b)
  (ho:∀b q,κ b=some (p.1,q)->κ' b=κ b/\Same w w' b) {cs:aa CT} {j:Nat} {as:aa A}
  (hg:∀i,i<cs.length->get' (j+i)=get (j+i)) (h:aB κ w cs p j get as):aB κ' w' (cs.map (oH M)) p j get' as:=by
 refine lY (by rw [fE];exact dH h) fun k c a hc ha => ?_
 rw [kz] at hc;cases sJ:cs[k]? with
 | none=>simp [sJ] at hc
 | some c0=>
  simp only [sJ,dx,aK] at hc;subst hc;have hk:=(bn sJ).1;have h0:=gZ h sJ ha;unfold oH;split
  ·cases c0 with
   | d=>rename_i hm;simp [CT.men] at hm
   | sl m e=>simp only [RC]
  ·rename_i hm;rw [hg k hk];refine wu (zt (fun S hS=>bz S hS) (by simpa using hm)) (fun b q hb=>ho b _ hb) h0
end stay
def rO (ac:Nat->Nat->aj) (cs:aa CT) (get:Nat->aj):Prop:=∀k j c e,cs[k]?=some (.sl (.own (some (j,c))) e)->get k=ac j c
theorem acZ {ac:Nat->Nat->aj} {cs:aa CT} {get get':Nat->aj} {M:aa Nat} (hg:∀i,i<cs.length->get' i=get i) (h:rO ac cs get):rO ac (cs.map (oH M)) get':=by
 intro k j c e hc;rw [kz] at hc;cases sJ:cs[k]? with
 | none=>simp [sJ] at hc
 | some c0=>
  simp only [sJ,dx,aK] at hc;have hk:=(bn sJ).1;rw [hg k hk];refine h k j c e ?_;rw [sJ];unfold oH at hc;split at hc
  ·cases c0<;>simp at hc
  ·rw [hc]
def TR (ac:Nat->Nat->aj) (κ:aP) (w:aA) (tg:Nat->TT) (sv:Nat->AV) (tm:Nat->aj) (t:Nat):TT->Prop
 | .dead=>True
 | .val ag cs=>∃as vs,sv t = .v as []/\cellsOf ag (tm t)=some vs/\vs.length=cs.length/\rO ac cs (fun k=>vs.getD k undef)/\aB κ w cs (t,[]) 0 (fun k=>vs.getD k undef) as
 | .alias ag cs r sk off S=>∃as is vs g ra row,sv t = .v as is/\cellsOf ag (tm t)=some vs/\vs.length=cs.length/\CT.lives cs=true/\aB κ w cs (t,[]) 0 (fun k=>vs.getD k undef) as /\
   gq w (rg w (tg r) (tm r)) sk is=some g/\PO κ w S (rg w (tg r) (tm r)) sk is/\(∀b,rb (tg r) (tm r)=some b->κ b=some (r,[]))/\(sk≠[]->r∈S) /\
   (∀k,k<cs.length->g (off+k)=vs.getD k undef/\vs.getD k undef≠undef)/\sv r = .v ra []/\b_ ra sk is=some row/\as=(row.drop off).take cs.length
 | .box cs=>∃as b,sv t = .v as []/\tm t = .pointer (some ⟨b,0,none⟩)/\b<w.heap.size/\κ b=some (t,[])/\Wrb w b 0 cs.length/\rO ac cs (cellD w b)/\aB κ w cs (t,[]) 0 (cellD w b) as
 | .ptr r sk off S=>∃is B O,sv t = .p is/\iH w (rg w (tg r) (tm r)) (rb (tg r) (tm r)) sk is=some (B,O)/\PO κ w S (rg w (tg r) (tm r)) sk is/\(∀b,rb (tg r) (tm r)=some b->κ b=some (r,[])) /\
   tm t = .pointer (some ⟨B,O+off,none⟩)
 | .tup ws cs=>∃as xs vs,sv t = .v as []/\tm t = .tuple xs/\u_ ws xs.toList=some vs/\vs.length=cs.length/\aB κ w cs (t,[]) 0 (fun k=>vs.getD k undef) as
theorem nG (w:aA) (mods M:aa Nat) (tag:TT) (x:aj):rg w (tag.kill mods M) x=rg w tag x/\rb (tag.kill mods M) x=rb tag x:=by
 cases tag with
 | alias ag cs r sk off S=>simp only [TT.kill];split<;>exact ⟨by funext k;simp [rg],by simp [rb]⟩
 | ptr r sk off S=>simp only [TT.kill];split<;>exact ⟨by funext k;simp [rg],by simp [rb]⟩
 | _=>cases x with
  | pointer a=>cases a<;>exact ⟨rfl,rfl⟩
  | _=>exact ⟨rfl,rfl⟩
theorem Kg {M:aa Nat}:∀{cs:aa CT},CT.mens M cs=false->cs.map (oH M)=cs
 | [],_=>rfl
 | c::cs,h=>by
  simp only [CT.mens,nA] at h;simp [oH,h.1,Kg h.2]
theorem ar1 {w w':aA} {tag:TT} {x:aj} (h:∀b,rb tag x=some b->Same w w' b):Agr (rg w tag x) (rg w' tag x):=by
 intro k hk;cases tag with
 | box cs=>
  cases x with
  | pointer a=>
   cases a with
   | none=>rfl
   | some a=>
    have:=(h a.block rfl).agr (fun k=>k);exact this k (by simpa [rg] using hk)
  | _=>rfl
 | _=>rfl
section stay
variable {κ κ':aP} {w w':aA} {mods M:aa Nat} {tg tg':Nat->TT} {sv sv':Nat->AV} {tm tm':Nat->aj} {ac:Nat->Nat->aj}
theorem azE (bz:∀S,(∀m,m∈M->m∉S)->∀b,bu κ w S b->bu κ' w' S b/\Same w w' b)
  (ho:∀b r q,r∉mods->κ b=some (r,q)->κ' b=κ b/\Same w w' b)
  (sK:∀r,r∉mods->∀x,rg w' (tg' r) x=rg w' (tg r) x/\rb (tg' r) x=rb (tg r) x) (jJ:∀r,r∉mods->sv' r=sv r) (qx:∀r,r∉mods->tm' r=tm r)
  {t:Nat} (ht:t∉mods) (h:TR ac κ w tg sv tm t (tg t)):TR ac κ' w' tg' sv' tm' t ((tg t).kill mods M):=by
 have aj6:=jJ t ht;have aj7:=qx t ht;cases hT:tg t with
 | dead=>simp [TT.kill,TR]
 | val ag cs=>
  rw [hT] at h;simp only [TT.kill,TR,aj6,aj7] at h ⊢;obtain ⟨as,vs,h1,h2,h3,hp,h4⟩:=h;exact ⟨as,vs,h1,h2,by simpa using h3,acZ (fun _ _=>rfl) hp,Ke bz (fun b q hb=>ho b t q ht hb) (fun _ _=>rfl) h4⟩
 | tup ws cs=>
  rw [hT] at h;simp only [TT.kill,TR,aj6,aj7] at h ⊢;obtain ⟨as,xs,vs,h1,h2,h3,h4,h5⟩:=h;exact ⟨as,xs,vs,h1,h2,h3,by simpa using h4,Ke bz (fun b q hb=>ho b t q ht hb) (fun _ _=>rfl) h5⟩
 | box cs=>
  rw [hT] at h;simp only [TT.kill,TR,aj6,aj7] at h ⊢;obtain ⟨as,b,h1,h2,hb,h3,h4,hp,h5⟩:=h;obtain ⟨hk,hs⟩:=ho b t [] ht h3;have hc:∀i,i<cs.length->cellD w' b i=cellD w b i:=fun i hi=>hs.cD h4.rdb (lN _) hi
  exact ⟨as,b,h1,h2,hs.1 hb,by rw [hk];exact h3,by rw [fE];exact hs.wrb h4,acZ hc hp,Ke bz (fun b q hb=>ho b t q ht hb) (fun i hi=>by simpa using hc i hi) h5⟩
 | alias ag cs r sk off S=>
  rw [hT] at h;simp only [TT.kill];split
  ·simp [TR]
  ·rename_i hk;simp only [iQ,not_or,Bool.not_eq_true] at hk;obtain ⟨⟨hr,hS⟩,hm⟩:=hk;have jF:r∉mods:=by simpa using hr
   have arz:=bz S (Ht hS);simp only [TR,aj6,aj7,qx r jF,jJ r jF,(sK r jF (tm r)).2,show rg w' (tg' r) (tm r)=rg w' (tg r) (tm r) from (sK r jF (tm r)).1] at h ⊢;obtain ⟨as,is,vs,g,ra,row,h1,h2,h3,hl,h4,h5,h6,h7,h8,h9,h10,h11,gT⟩:=h;have arA:=ar1 (tag:=tg r) (x:=tm r) (fun b hb=>(ho b r [] jF (h7 b hb)).2);have h4':aB κ' w' cs (t,[]) 0 (fun k=>vs.getD k undef) as:=by
    have:=Ke (κ':=κ') (w':=w') (M:=M) bz (fun b q hb=>ho b t q ht hb) (fun _ _=>rfl) h4;rwa [Kg hm] at this
   cases sk with
   | nil=>
    cases is with
    | cons=>simp [gq] at h5
    | nil=>
     simp only [gq,aK] at h5;subst h5;exact ⟨as,[],vs,_,ra,row,h1,h2,h3,hl,h4',rfl,by simp [PO],fun b hb=>by rw [(ho b r [] jF (h7 b hb)).1];exact h7 b hb,h8,
      fun k hk=>⟨by rw [arA _ (by rw [(h9 k hk).1];exact (h9 k hk).2)];exact (h9 k hk).1,(h9 k hk).2⟩,h10,h11,gT⟩
   | cons s sk=>
    simp only [gq,cO] at h5;obtain ⟨BO,h5,rfl⟩:=h5;have hw:=zq arz arA h6 h5;have hB:bu κ w S BO.1:=by
     obtain ⟨B,O⟩:=BO;exact al6 (by simp) h6 h5
    have lD:=((arz BO.1 hB).2).agr (fun k=>BO.2+k);refine ⟨as,is,vs,fun k=>cellD w' BO.1 (BO.2+k),ra,row,h1,h2,h3,hl,h4',by simp only [gq,hw.1,dx],hw.2,fun b hb=>by rw [(ho b r [] jF (h7 b hb)).1];exact h7 b hb,h8,
     fun k hk=>⟨?_,(h9 k hk).2⟩,h10,h11,gT⟩
    have:=lD (off+k) (by rw [(h9 k hk).1];exact (h9 k hk).2);simp only at this ⊢;rw [this];exact (h9 k hk).1
 | ptr r sk off S=>
  rw [hT] at h;simp only [TT.kill];split
  ·simp [TR]
  ·rename_i hk;simp only [iQ,not_or,Bool.not_eq_true] at hk;obtain ⟨hr,hS⟩:=hk;have jF:r∉mods:=by simpa using hr
   have arz:=bz S (Ht hS);simp only [TR,aj6,aj7,qx r jF,(sK r jF (tm r)).2,show rg w' (tg' r) (tm r)=rg w' (tg r) (tm r) from (sK r jF (tm r)).1] at h ⊢;obtain ⟨is,B,O,h1,h2,h3,h4,h5⟩:=h;have arA:=ar1 (tag:=tg r) (x:=tm r) (fun b hb=>(ho b r [] jF (h4 b hb)).2);have:=zq arz arA h3 h2;exact ⟨is,B,O,h1,this.1,this.2,fun b hb=>by rw [(ho b r [] jF (h4 b hb)).1];exact h4 b hb,h5⟩
end stay
end Go.Fw
namespace Go.Fw
structure Fr (κ0:aP) (w0:World) (κ:aP) (w:World):Prop where
 size:w0.heap.size<=w.heap.size
 kept:∀b,b<w0.heap.size->κ0 b=none->κ b=none/\w.heap[b]?=w0.heap[b]?
 os:w.os=w0.os
 out:w.output=w0.output
 tape:w.tape=w0.tape
def FB:Nat:=1000000000
theorem Same.trans {w w1 w2:aA} {b:Nat} (h:Same w w1 b) (h':Same w1 w2 b):Same w w2 b:=
 ⟨fun hb=>h'.1 (h.1 hb),fun o x hx=>⟨(h'.2 o x (h.2 o x hx).1).1,by rw [(h'.2 o x (h.2 o x hx).1).2,(h.2 o x hx).2]⟩⟩
structure R (ac:Nat->Nat->Value) (κ0:aP) (w0:World) (κ:aP) (w:World) (N:Nat) (tg:Nat->TT) (sv:Nat->AV) (tm:Nat->Value):Prop where
 tr:∀t,TR ac κ w tg sv tm t (tg t)
 out:∀t,N<=t->tg t = .dead
 col:∀b,w.heap.size<=b->κ b=none
 fr:Fr κ0 w0 κ w
 fb:∀b q,κ0 b=some (FB,q)->κ b=some (FB,q)/\Same w0 w b
 nle:N<=FB
def upd {α:Type} (f:Nat->α) (d:Nat) (v:α) (t:Nat):α:=if t=d then v else f t
theorem bI {α:Type} (f:Nat->α) (d:Nat) (v:α):upd f d v d=v:=by simp [upd]
theorem upd_ne {α:Type} (f:Nat->α) (d:Nat) (v:α) {t:Nat} (h:t≠d):upd f d v t=f t:=by simp [upd,h]
section
variable {ac:Nat->Nat->aj} {κ0 κ κ':aP} {w0 w w':aA} {N:Nat} {tg tg':Nat->TT} {sv sv':Nat->AV} {tm tm':Nat->aj} {mods M:aa Nat}
theorem uy (h:R ac κ0 w0 κ w N tg sv tm) (qy:FB∉mods)
  (bz:∀S,(∀m,m∈M->m∉S)->∀b,bu κ w S b->bu κ' w' S b/\Same w w' b)
  (ho:∀b r q,r∉mods->κ b=some (r,q)->κ' b=κ b/\Same w w' b)
  (sK:∀r,r∉mods->tg' r=(tg r).kill mods M\/(∀x,rg w' (tg' r) x=rg w' (tg r) x/\rb (tg' r) x=rb (tg r) x)/\TR ac κ' w' tg' sv' tm' r (tg' r))
  (jJ:∀r,r∉mods->sv' r=sv r) (qx:∀r,r∉mods->tm' r=tm r)
  (hm:∀t,t∈mods->TR ac κ' w' tg' sv' tm' t (tg' t)) (pz:∀t,N<=t->tg' t = .dead)
  (kw:∀b,w'.heap.size<=b->κ' b=none) (hfr:Fr κ0 w0 κ' w'):R ac κ0 w0 κ' w' N tg' sv' tm':=by
 refine ⟨fun t => ?_,pz,kw,hfr,fun b q hb => ?_,h.nle⟩;case refine_2=>
  obtain ⟨h1,h2⟩:=h.fb b q hb
  obtain ⟨h3,h4⟩:=ho b FB q qy h1
  exact ⟨by rw [h3];exact h1,h2.trans h4⟩
 by_cases ht:t∈mods
 ·exact hm t ht
 ·rcases sK t ht with h1|h1
  ·rw [h1];refine azE bz ho (fun r hr x => ?_) jJ qx ht (h.tr t);rcases sK r hr with h2|h2
   ·rw [h2];exact nG w' mods M (tg r) x
   ·exact h2.1 x
  ·exact h1.2
end
theorem ac0 (c:CT):oH [] c=c:=by
 have h:c.men []=false:=by
  have key:(∀c:CT,c.men []=false)/\∀cs:aa CT,CT.mens [] cs=false:=by
   refine ⟨fun c => ?_,fun cs => ?_⟩
   ·exact men_nil c
   ·exact mens_nil cs
  exact key.1 c
 simp [oH,h]
where
 men_nil:∀c:CT,c.men []=false
  | .d=>by simp [CT.men]
  | .sl (.ro S) e=>by simp [CT.men,mens_nil e]
  | .sl (.own _) e=>by simp [CT.men,mens_nil e]
  | .sl .dead e=>by simp [CT.men,mens_nil e]
 mens_nil:∀cs:List CT,CT.mens [] cs=false
  | []=>by simp [CT.mens]
  | c::cs=>by simp [CT.mens,men_nil c,mens_nil cs]
def aW (κ:aP) (F:Pl->ah Pl) (nb:ah (Nat × Pl)):aP:=fun b=>
 match nb with
 | some (b',p)=>if b=b' then some p else (κ b).bind F
 | none=>(κ b).bind F
section
variable {ac:Nat->Nat->aj} {κ0 κ:aP} {w0 w w':aA} {N:Nat} {tg tg':Nat->TT} {sv sv':Nat->AV} {tm tm':Nat->aj} {mods M:aa Nat}
structure Grows (w w':World):Prop where
 size:w.heap.size<=w'.heap.size
 old:∀b,b<w.heap.size->w'.heap[b]?=w.heap[b]?
 os:w'.os=w.os
 out:w'.output=w.output
 tape:w'.tape=w.tape
theorem Grows.refl (w:aA):Grows w w:=⟨dV _,fun _ _=>rfl,rfl,rfl,rfl⟩
theorem cell?_none {w:aA} {b o:Nat} (h:w.heap.size<=b):w.cell? ⟨b,o,none⟩=none:=by
 simp [World.cell?,agu h]
theorem Grows.same {w w':aA} (h:Grows w w') (b:Nat):Same w w' b:=by
 refine ⟨fun hb=>mU hb h.size,fun o x hx => ?_⟩;by_cases hb:b<w.heap.size
 ·have:=h.old b hb;simp only [World.cell?,World.frozen?,this] at hx ⊢;exact ⟨hx,trivial⟩
 ·rw [cell?_none (by omega)] at hx;cases hx
theorem Fr.step {w w':aA} {κ κ':aP} {κ0:aP} {w0:aA} (h:Fr κ0 w0 κ w) (hg:Grows w w') (hk:∀b,b<w.heap.size->κ b=none->κ' b=none):Fr κ0 w0 κ' w':=
 ⟨kF h.size hg.size,fun b hb h0=>⟨hk b (mU hb h.size) (h.kept b hb h0).1,by rw [hg.old b (mU hb h.size)];exact (h.kept b hb h0).2⟩,
  by rw [hg.os,h.os],by rw [hg.out,h.out],by rw [hg.tape,h.tape]⟩
theorem abP (h:R ac κ0 w0 κ w N tg sv tm) (qy:FB∉mods) {F:Pl->ah Pl} {nb:ah (Nat × Pl)} (hw:Grows w w')
  (hF:∀r q,r∉mods->F (r,q)=some (r,q)) (hM:∀r q p,F (r,q)=some p->r∉M->p=(r,q))
  (oz:∀b p,nb=some (b,p)->w.heap.size<=b/\b<w'.heap.size)
  (sK:∀r,r∉mods->tg' r=(tg r).kill mods M) (jJ:∀r,r∉mods->sv' r=sv r) (qx:∀r,r∉mods->tm' r=tm r)
  (hm:∀t,t∈mods->TR ac (aW κ F nb) w' tg' sv' tm' t (tg' t)) (pz:∀t,N<=t->tg' t = .dead):R ac κ0 w0 (aW κ F nb) w' N tg' sv' tm':=by
 have bv:∀b,b<w.heap.size->aW κ F nb b=(κ b).bind F:=by
  intro b hb;unfold aW;cases nb with
  | none=>rfl
  | some q=>
   obtain ⟨b',p⟩:=q;have:=oz b' p rfl;simp only;rw [if_neg (by omega)]
 have kw:∀b p,κ b=some p->b<w.heap.size:=fun b p hb=>by
  apply sW;intro dD;rw [h.col b dD] at hb;cases hb
 refine uy (mods:=mods) (M:=M) h qy (fun S hS b hb=>⟨⟨mU hb.1 hw.size,fun r p hr => ?_⟩,hw.same b⟩) (fun b r q hr hb=>⟨?_,hw.same b⟩) (fun r hr=>.inl (sK r hr)) jJ qx hm pz (fun b hb => ?_) ?_
 ·rw [bv b hb.1] at hr;cases hk:κ b with
  | none=>simp [hk] at hr
  | some p0=>
   obtain ⟨r0,q0⟩:=p0;simp only [hk,af] at hr;by_cases hrM:r0∈M
   ·exact absurd (hb.2 r0 q0 hk).1 (hS r0 hrM)
   ·have:=hM r0 q0 _ hr hrM;cases this;exact hb.2 _ _ hk
 ·rw [bv b (kw b _ hb),hb];simp [hF r q hr]
 ·have di:w.heap.size<=b:=kF hw.size hb;unfold aW;cases nb with
  | none=>simp [h.col b di]
  | some q=>
   obtain ⟨b',p⟩:=q;have:=oz b' p rfl;simp only;rw [if_neg (by omega)];simp [h.col b di]
 ·exact h.fr.step hw fun b hb hk=>by rw [bv b hb,hk];rfl
end
end Go.Fw
namespace Go.Fw
theorem run_pure {α:Type} (a:α) (P:aR) (w:aA):(pure a:Sem α).run P w = .ok a w:=rfl
theorem run_bind {α β:Type} (e:Sem α) (f:α->Sem β) (P:aR):∀w:aA,(e >>= f).run P w=match e.run P w with
  | .ok a w'=>(f a).run P w'
  | .halt h w'=>.halt h w':=by
 show ∀w,(e.bind f).run P w=_;induction e with
 | pure a=>intro w;rfl
 | load m a k ih=>
  intro w;simp only [Sem.bind,Sem.run]
  (repeat' split)<;>simp_all
 | store m a v k ih=>
  intro w;cases v<;>simp only [Sem.bind,Sem.run]<;>((repeat' split)<;>simp_all)
 | new o k ih=>intro w;simp only [Sem.bind,Sem.run];exact ih _ _
 | shape r k ih=>intro w;simp only [Sem.bind,Sem.run];exact ih _ _
 | freeze a n k ih=>intro w;simp only [Sem.bind,Sem.run];exact ih _
 | frozen a k ih=>intro w;simp only [Sem.bind,Sem.run];exact ih _ _
 | getObj r k ih=>
  intro w;simp only [Sem.bind,Sem.run];split<;>simp_all
 | setObj r o k ih=>
  intro w;simp only [Sem.bind,Sem.run];split<;>simp_all
 | choose q k ih=>
  intro w;simp only [Sem.bind,Sem.run];split<;>simp_all
 | sys c k ih=>intro w;simp only [Sem.bind,Sem.run];exact ih _ _
 | program k ih=>intro w;simp only [Sem.bind,Sem.run];exact ih _ _
 | mark m k ih=>intro w;simp only [Sem.bind,Sem.run];exact ih _
 | halt h=>intro w;rfl
theorem aF {α β:Type} {e:Sem α} {f:α->Sem β} {P:aR} {w w':aA} {a:α} (h:e.run P w = .ok a w'):(e >>= f).run P w=(f a).run P w':=by
 rw [run_bind,h]
theorem run_underlying {P:aR} {t:TypeId} {d:zTd} (h:P.underlying t=some d) (w:aA):(underlying t).run P w = .ok d w:=by
 simp [underlying,program,bind,Sem.bind,Sem.run,h,pure]
theorem run_typeInfo {P:aR} {t:TypeId} {i:TypeInfo} (h:P.info? t=some i) (w:aA):(typeInfo t).run P w = .ok i w:=by
 simp [typeInfo,program,bind,Sem.bind,Sem.run,h,pure]
theorem run_sizeOf {P:aR} {t:TypeId} {i:TypeInfo} (h:P.info? t=some i) (w:aA):(sizeOf t).run P w = .ok i.size w:=by
 unfold sizeOf;rw [aF (run_typeInfo h w)];rfl
theorem DZ {P:aR} {t:TypeId} {i:TypeInfo} {z:aj} (h:P.info? t=some i) (hz:i.zero=some z) (w:aA):(zeroValue t).run P w = .ok z w:=by
 unfold zeroValue;rw [aF (run_typeInfo h w)];simp [hz,pure,Sem.run]
def w9 (P:aR) (t:TypeId):ah Bool:=
 match P.underlying t with
 | some (.struct _)=>some true
 | some (.array _ _)=>none
 | some _=>some false
 | none=>none
theorem F3 {P:aR} {t:TypeId} {g:Bool} (h:w9 P t=some g) (w:aA):(isAgg t).run P w = .ok g w:=by
 unfold w9 at h;unfold isAgg;cases hu:P.underlying t with
 | none=>simp [hu] at h
 | some d=>
  rw [aF (run_underlying hu w)];cases d<;>simp [hu] at h<;>subst h<;>rfl
def gu (w:aA) (cells:Array aj) (t:TypeId):aA:={ w with heap:=w.heap.push (.cells cells t) }
theorem uz (w:aA) (cells:Array aj) (t:TypeId):Grows w (gu w cells t):=
 ⟨by simp [gu],fun b hb=>by simp only [gu];rw [Array.getElem?_push_lt hb,Vq hb],rfl,rfl,rfl⟩
theorem Xj (w:aA) (cells:Array aj) (t:TypeId) (o:Nat):(gu w cells t).cell? ⟨w.heap.size,o,none⟩=cells[o]?:=by
 have:(gu w cells t).heap[w.heap.size]?=some (.cells cells t):=Array.getElem?_push_size;unfold World.cell?;simp only [this];rfl
theorem Oi (w:aA) (cells:Array aj) (t:TypeId) (lo hi:Nat) (h:hi<=cells.size):Wrb (gu w cells t) w.heap.size lo hi:=by
 intro o _ h2;refine ⟨⟨cells[o]'(by omega),by rw [Xj];simp [show o<cells.size by omega]⟩,?_⟩;have:(gu w cells t).heap[w.heap.size]?=some (.cells cells t):=Array.getElem?_push_size;unfold World.frozen?;simp only [this];simp
theorem Hu (w:aA) (cells:Array aj) (t:TypeId) (o:Nat):cellD (gu w cells t) w.heap.size o=cells.toList.getD o undef:=by
 simp [cellD,Xj,dA]
theorem pV {P:aR} (elem:TypeId) (cells:Array aj) (w:aA):(newRow elem cells).run P w = .ok ⟨w.heap.size,0,none⟩ (gu w cells elem):=by
 simp [newRow,newObj,bind,Sem.bind,Sem.run,pure,gu]
theorem azF {P:aR} (elem:TypeId) (v:aj) (w:aA):(Instr.box elem v).run P w = .ok (.pointer (some ⟨w.heap.size,0,none⟩)) (gu w v.cells elem):=by
 unfold Instr.box newVar;rw [aF (pV elem v.cells w)];rfl
theorem ar2 {P:aR} {elem:TypeId} {i:TypeInfo} {z:aj} (h:P.info? elem=some i) (hz:i.zero=some z) (w:aA) :
  (Instr.alloc elem true (.tuple #[])).run P w = .ok (.pointer (some ⟨w.heap.size,0,none⟩)) (gu w z.cells elem):=by
 unfold Instr.alloc;rw [aF (DZ h hz w)];simp only;unfold newVar;rw [aF (pV elem z.cells w)];rfl
theorem zu (b o k:Nat):(Addr.add ⟨b,o,none⟩ k)=⟨b,o+k,none⟩:=by
 unfold Addr.add;split
 ·simp_all
 ·rfl
theorem Oj {P:aR} {a:Addr} {x:aj} {w:aA} (h:w.cell? a=some x):(load a).run P w = .ok x w:=by
 simp [load,Sem.run,h]
theorem run_loadCellsFrom {P:aR} {b o:Nat} {w:aA}:∀(n i:Nat) (acc:Array aj),Rdb w b (o+i) (o+i+n) ->
  (loadCellsFrom ⟨b,o,none⟩ i n acc).run P w = .ok (acc++((List.range n).map fun k=>cellD w b (o+i+k)).toArray) w
 | 0,i,acc,_=>by simp [loadCellsFrom,pure,Sem.run]
 | n+1,i,acc,h=>by
  obtain ⟨x,hx⟩:=h (o+i) (dV _) (by omega);unfold loadCellsFrom;rw [zu,aF (Oj hx),run_loadCellsFrom n (i+1) _ (fun o' h1 h2=>h o' (by omega) (by omega))];congr 1;have:cellD w b (o+i)=x:=by simp [cellD,hx]
  apply Array.ext';simp only [Array.toList_append,Array.toList_push,List.range_succ_eq_map,bf,wX,rJ,this,fJ,Ap];congr 2;apply J6;intro k _;simp only [Function.comp];congr 1;omega
theorem run_loadCells {P:aR} {b o n:Nat} {w:aA} (h:Rdb w b o (o+n)) :
  (loadCells ⟨b,o,none⟩ n).run P w = .ok ((List.range n).map fun k=>cellD w b (o+k)).toArray w:=by
 unfold loadCells;rw [run_loadCellsFrom n 0 #[] (by simpa using h)];simp
theorem Xk {P:aR} {t:TypeId} {i:TypeInfo} {g:Bool} {b o:Nat} {w:aA} (hi:P.info? t=some i) (hg:w9 P t=some g) (h1:g=false->i.size=1)
  (h:Rdb w b o (o+i.size)):∃v,(Instr.loadAt t (.pointer (some ⟨b,o,none⟩))).run P w = .ok v w /\
   (g=true->v = .agg ((List.range i.size).map fun k=>cellD w b (o+k)).toArray)/\(g=false->v=cellD w b o):=by
 unfold Instr.loadAt;have hs:(Instr.sureAddr (.pointer (some ⟨b,o,none⟩))).run P w = .ok ⟨b,o,none⟩ w:=rfl;rw [aF hs];unfold loadVar;rw [aF (F3 hg w)];cases g with
 | true=>
  simp only [if_true];rw [aF (run_sizeOf hi w),aF (run_loadCells h)];exact ⟨_,rfl,fun _=>rfl,fun h=>by cases h⟩
 | false=>
  obtain ⟨x,hx⟩:=h o (dV _) (by have:=h1 rfl;omega);exact ⟨x,Oj hx,(fun h=>by cases h),fun _=>(by simp [cellD,hx])⟩
end Go.Fw
namespace Go.Fw
def rP:aj->Bool
 | .agg _ | .tuple _=>false
 | _=>true
def bO (w:aA) (b o:Nat):aa aj->aA
 | []=>w
 | v::vs=>bO (w.setCell ⟨b,o,none⟩ v) b (o+1) vs
theorem agS (w:aA) (a:Addr) (v:aj):(w.setCell a v).heap.size=w.heap.size:=by simp [World.setCell]
theorem Xl (w:aA) (a:Addr) (v:aj) (b:Nat) (h:b≠a.block):(w.setCell a v).heap[b]?=w.heap[b]?:=by
 simp [World.setCell,Array.getElem?_modify,ig h]
theorem agU (w:aA) (b o b' o':Nat) (v:aj) :
  (w.setCell ⟨b,o,none⟩ v).cell? ⟨b',o',none⟩=if b'=b/\o'=o then (w.cell? ⟨b,o,none⟩).map fun _=>v else w.cell? ⟨b',o',none⟩:=by
 unfold World.cell? World.setCell;simp only [Array.getElem?_modify];by_cases hb:b'=b
 ·subst hb;simp only [if_true,true_and];cases hw:w.heap[b']? with
  | none=>simp
  | some x=>
   cases x<;>simp;rename_i c elem fz;rw [abN];by_cases ho:o'=o
   ·subst ho;simp only [if_true];by_cases hs:o'<c.size
    ·simp [hs]
    ·simp [hs]
   ·simp [ho,ig ho]
 ·simp [hb,ig hb]
theorem abQ (w:aA) (b o b' o':Nat) (v:aj):(w.setCell ⟨b,o,none⟩ v).frozen? ⟨b',o',none⟩=w.frozen? ⟨b',o',none⟩:=by
 unfold World.frozen? World.setCell;simp only [Array.getElem?_modify];by_cases hb:b'=b
 ·subst hb;simp only [if_true];cases hw:w.heap[b']? with
  | none=>simp
  | some x=>cases x<;>simp
 ·simp [ig hb]
theorem kM:∀(vs:aa aj) (w:aA) (b o:Nat),(bO w b o vs).heap.size=w.heap.size/\(bO w b o vs).os=w.os/\(bO w b o vs).output=w.output /\
  (bO w b o vs).tape=w.tape/\(∀b',b'≠b->(bO w b o vs).heap[b']?=w.heap[b']?)/\∀b' o',(bO w b o vs).frozen? ⟨b',o',none⟩=w.frozen? ⟨b',o',none⟩
 | [],w,b,o=>⟨rfl,rfl,rfl,rfl,fun _ _=>rfl,fun _ _=>rfl⟩
 | v::vs,w,b,o=>by
  obtain ⟨h1,h2,h3,h4,h5,h6⟩:=kM vs (w.setCell ⟨b,o,none⟩ v) b (o+1);refine ⟨by simp only [bO];rw [h1,agS],by simp only [bO];rw [h2];rfl,by simp only [bO];rw [h3];rfl,by simp only [bO];rw [h4];rfl,fun b' di => ?_,fun b' o' => ?_⟩
  ·simp only [bO];rw [h5 b' di,Xl w _ v b' di]
  ·simp only [bO];rw [h6,abQ]
theorem iJ:∀(vs:aa aj) (w:aA) (b o b' o':Nat),
  (bO w b o vs).cell? ⟨b',o',none⟩=if b'=b/\o<=o'/\o'<o+vs.length then (w.cell? ⟨b',o',none⟩).map fun _=>vs.getD (o'-o) undef else w.cell? ⟨b',o',none⟩
 | [],w,b,o,b',o'=>by
  simp only [bO,bB,rJ];rw [if_neg (by omega)]
 | v::vs,w,b,o,b',o'=>by
  simp only [bO,bA];rw [iJ vs,agU];by_cases hb:b'=b
  ·subst hb;by_cases ho:o'=o
   ·subst ho;rw [if_neg (by omega),if_pos (by simp),if_pos (by omega)];simp
   ·by_cases h1:o+1<=o'/\o'<o+1+vs.length
    ·rw [if_pos (by omega),if_neg (by omega),if_pos (by omega)];congr 1;funext _;rw [show o'-o=(o'-(o+1))+1 from by omega];rfl
    ·rw [if_neg (by omega),if_neg (by omega),if_neg (by omega)]
  ·simp [hb]
theorem dJ {w:aA} {b o:Nat} {vs:aa aj} {b':Nat} (h:b'≠b):Same w (bO w b o vs) b':=by
 refine ⟨fun hb=>by rw [(kM vs w b o).1];exact hb,fun o' x hx=>⟨?_,(kM vs w b o).2.2.2.2.2 _ _⟩⟩;rw [iJ,if_neg (by simp [h])];exact hx
theorem nH {w:aA} {b o:Nat} {vs:aa aj} {b' lo hi:Nat} (h:Wrb w b' lo hi):Wrb (bO w b o vs) b' lo hi:=by
 intro o' h1 h2;obtain ⟨⟨x,hx⟩,hf⟩:=h o' h1 h2;refine ⟨?_,by rw [(kM vs w b o).2.2.2.2.2];exact hf⟩;rw [iJ];split
 ·exact ⟨_,by rw [hx];rfl⟩
 ·exact ⟨x,hx⟩
theorem Ar {w:aA} {b o:Nat} {vs:aa aj} (h:Wrb w b o (o+vs.length)) (k:Nat) (hk:k<vs.length):cellD (bO w b o vs) b (o+k)=vs.getD k undef:=by
 obtain ⟨⟨x,hx⟩,_⟩:=h (o+k) (by omega) (by omega);unfold cellD;rw [iJ,if_pos ⟨rfl,by omega,by omega⟩,hx,show o+k-o=k from by omega];simp
theorem run_store {P:aR} {b o:Nat} {v x:aj} {w:aA} (h1:rP v=true) (hx:w.cell? ⟨b,o,none⟩=some x) (hf:w.frozen? ⟨b,o,none⟩=false) :
  (store ⟨b,o,none⟩ v).run P w = .ok () (w.setCell ⟨b,o,none⟩ v):=by
 unfold store;cases v<;>simp [rP] at h1<;>simp [Sem.run,hx,hf]
theorem zw {P:aR} {b o:Nat}:∀(vs:aa aj) (i:Nat) (w:aA),vs.all rP=true->Wrb w b (o+i) (o+i+vs.length) ->
  (storeCells ⟨b,o,none⟩ vs i).run P w = .ok () (bO w b (o+i) vs)
 | [],i,w,_,_=>by simp [storeCells,pure,Sem.run,bO]
 | v::vs,i,w,h1,h=>by
  simp only [DV,aM] at h1;obtain ⟨⟨x,hx⟩,hf⟩:=h (o+i) (dV _) (by simp);unfold storeCells;rw [zu,aF (run_store h1.1 hx hf),zw vs (i+1) _ h1.2 ?_]
  ·simp [bO,jm]
  ·have:bO w b (o+i) [v]=w.setCell ⟨b,o+i,none⟩ v:=rfl;rw [<-this];exact nH (h.sub (by omega) (by simp;omega))
theorem Au {P:aR} {t:TypeId} {i:TypeInfo} {b o:Nat} {v:aj} {w:aA} (hi:P.info? t=some i) (hv:v.cells.size=i.size) (h1:v.cells.toList.all rP=true)
  (h:Wrb w b o (o+i.size)):(Instr.storeAt t (.pointer (some ⟨b,o,none⟩)) v).run P w = .ok () (bO w b o v.cells.toList):=by
 unfold Instr.storeAt;have hs:(Instr.sureAddr (.pointer (some ⟨b,o,none⟩))).run P w = .ok ⟨b,o,none⟩ w:=rfl;rw [aF hs];unfold storeVar;rw [aF (run_sizeOf hi w)];have bv:¬(v.cells.size≠i.size):=by simp [hv]
 have:=zw (P:=P) v.cells.toList 0 w h1 (by simpa [hv] using h) (b:=b) (o:=o);simp only [rJ] at this;simp only [if_neg bv];exact this
theorem akJ {P:aR} {s:TypeId} {fs:Array Field} {f:Nat} {fi:Field} {i:TypeInfo} {b o:Nat} {w:aA} (h:P.underlying s=some (.struct fs)) (hf:fs[f]?=some fi)
  (hi:P.info? fi.type=some i) (h0:i.size≠0):(Instr.fieldAt s (.pointer (some ⟨b,o,none⟩)) f).run P w = .ok (.pointer (some ⟨b,o+fi.offset,none⟩)) w:=by
 unfold Instr.fieldAt;rw [aF (run_underlying h w)];simp only [hf];have hs:(Instr.sureAddr (.pointer (some ⟨b,o,none⟩))).run P w = .ok ⟨b,o,none⟩ w:=rfl;rw [aF hs];unfold fieldPlace;have h2:((do if (<-sizeOf fi.type)=0 then partAt ⟨b,o,none⟩ fi.offset fi.byteOffset else pure (Addr.add ⟨b,o,none⟩ fi.offset)):Sem Addr).run P w = .ok ⟨b,o+fi.offset,none⟩ w:=by
  rw [aF (run_sizeOf hi w),if_neg h0,zu];rfl
 rw [aF h2];rfl
theorem run_indexAt {P:aR} {t e:TypeId} {i:TypeInfo} {b o len cap:Nat} {k:IntKind} {n:Int} {w:aA} (h:P.underlying t=some (.slice e)) (hi:P.info? e=some i)
  (h0:0<=n) (h1:n<len):(Instr.indexAt t (.slice (some ⟨b,o,none⟩) len cap) (.int k n)).run P w = .ok (.pointer (some ⟨b,o+n.toNat*i.size,none⟩)) w:=by
 unfold Instr.indexAt;have hs:(asIntOf (.int k n)).run P w = .ok (k,n) w:=rfl;rw [aF hs];simp only;rw [aF (run_underlying h w)];simp only;rw [aF (run_pure _ P w),aF (run_underlying h w)];simp only [h0,h1,and_self,if_true];rw [aF (run_sizeOf hi w),zu];rfl
theorem Ol {P:aR} {t e:TypeId} {i:TypeInfo} {ao:ah Addr} {len cap:Nat} {lo hi:ah aj} {l h:Nat} {w:aA} (hu:P.underlying t=some (.slice e)) (jw:P.info? e=some i)
  (hlo:(lo=none/\l=0)\/∃k,lo=some (.int k (l:Int))) (hhi:(hi=none/\h=len)\/∃k,hi=some (.int k (h:Int))) (h1:l<=h) (h2:h<=cap) :
  (Instr.sliceAt t (.slice ao len cap) lo hi none).run P w = .ok (.slice (if cap=l then ao else ao.map (·.add (l*i.size))) (h-l) (cap-l)) w:=by
 have hb:∀(x y:Nat) (c:BoundsCode) (k:IntKind),x<=y->(Instr.sliceBound (.int k (x:Int)) y c).run P w = .ok x w:=by
  intro x y c k hxy;unfold Instr.sliceBound;have hs:(asIntOf (.int k (x:Int))).run P w = .ok (k,(x:Int)) w:=rfl;rw [aF hs];have:(0:Int)<=x/\(x:Int)<=y:=by omega
  simp only [this,and_self,if_true];rfl
 have wT:(Instr.sliceBounds true len cap lo hi none).run P w = .ok (l,h,cap) w:=by
  unfold Instr.sliceBounds;simp only;rw [aF (run_pure cap P w)];rcases hhi with ⟨rfl,rfl⟩|⟨k,rfl⟩
  ·simp only;rw [aF (run_pure h P w)];rcases hlo with ⟨rfl,rfl⟩|⟨k,rfl⟩
   ·simp only;rw [aF (run_pure 0 P w)];rfl
   ·simp only;rw [aF (hb l h _ k h1)];rfl
  ·simp only;rw [aF (hb h cap _ k h2)];rcases hlo with ⟨rfl,rfl⟩|⟨k,rfl⟩
   ·simp only;rw [aF (run_pure 0 P w)];rfl
   ·simp only;rw [aF (hb l h _ k h1)];rfl
 unfold Instr.sliceAt;rw [aF (run_underlying hu w)];simp only;unfold Instr.slice;rw [aF (run_underlying hu w)];simp only;rw [aF wT];simp only;rw [aF (run_sizeOf jw w)];rfl
end Go.Fw
namespace Go.Fw
theorem ac1 (need:Nat):∀(r c B:Nat),c<=B->need+(need+768) / 4<=B->Builtin.growBy need r c<=B
 | 0,c,B,h,_=>h
 | r+1,c,B,h,h2=>by
  unfold Builtin.growBy;split
  ·exact h
  ·exact ac1 need r _ B (by omega) h2
theorem nextslicecap_le (need cap:Nat) (h:cap<need):Builtin.nextslicecap need cap<=2*need+512:=by
 unfold Builtin.nextslicecap;split
 ·omega
 ·split
  ·omega
  ·exact ac1 need 4 cap _ (by omega) (by omega)
def kC (w:aA):aA:={ w with drawn:=w.drawn+1 }
theorem akK (w:aA):Grows w (kC w):=⟨dV _,fun _ _=>rfl,rfl,rfl,rfl⟩
theorem Grows.trans {w w1 w2:aA} (h:Grows w w1) (h':Grows w1 w2):Grows w w2:=
 ⟨kF h.size h'.size,fun b hb=>by rw [h'.old b (mU hb h.size),h.old b hb],by rw [h'.os,h.os],by rw [h'.out,h.out],by rw [h'.tape,h.tape]⟩
def behind (w:aA) (m:Nat):ah Addr->aa aj
 | some a=>(List.range m).map fun k=>cellD w a.block (a.off+k)
 | none=>[]
theorem IR {P:aR} {size n cap:Nat} {ao:ah Addr} {w:aA} (h:n=0\/∃b o,ao=some ⟨b,o,none⟩/\Rdb w b o (o+n*size)) :
  (Builtin.firstCells size n (.slice ao n cap)).run P w = .ok (behind w (n*size) ao).toArray w:=by
 unfold Builtin.firstCells;rcases h with rfl|⟨b,o,rfl,hr⟩
 ·cases ao with
  | none=>rfl
  | some a=>
   simp only [Nat.zero_mul,behind,List.range_zero,bQ];rfl
 ·simp only [behind];exact run_loadCells hr
structure Om (P:Program) (t e:TypeId) (i:TypeInfo) (z:Value):Prop where
 slice:P.underlying t=some (.slice e)
 info:P.info? e=some i
 zero:i.zero=some z
 zsize:z.cells.size=i.size
 bytes:i.bytes<=4096
 pos:0<i.size
theorem aoF {P:aR} {t t2 e e2:TypeId} {i:TypeInfo} {z:aj} {ao xo:ah Addr} {len cap n xc:Nat} {ty:TypeId} {w:aA} (hE:Om P t e i z)
  (ht2:P.underlying t2=some (.slice e2)) (bJ:len<=cap) (acV:len+n<=4294967296)
  (hs:(ao=none/\cap=0)\/∃b o,ao=some ⟨b,o,none⟩/\Wrb w b o (o+cap*i.size))
  (hx:n=0\/∃b o,xo=some ⟨b,o,none⟩/\Rdb w b o (o+n*i.size)) (h1:(behind w (n*i.size) xo).all rP=true) :
  (∃b o,ao=some ⟨b,o,none⟩/\len+n<=cap/\(Builtin.append_ #[t,t2] ty #[.slice ao len cap,.slice xo n xc]).run P w =
   .ok (.slice ao (len+n) cap) (bO w b (o+len*i.size) (behind w (n*i.size) xo))) \/
  (len+n=0/\ao=none/\(Builtin.append_ #[t,t2] ty #[.slice ao len cap,.slice xo n xc]).run P w = .ok (.slice none 0 0) w) \/
  (∃newCap rest,cap<len+n/\len+n<=newCap/\rest.length=(newCap-(len+n))*i.size/\(Builtin.append_ #[t,t2] ty #[.slice ao len cap,.slice xo n xc]).run P w =
   .ok (.slice (some ⟨w.heap.size,0,none⟩) (len+n) newCap) (gu (kC w) (behind w (len*i.size) ao++behind w (n*i.size) xo++rest).toArray e)):=by
 have hfc:∀(w':aA) (f:Array aj->Sem aj),(∀b o,w'.cell? ⟨b,o,none⟩=w.cell? ⟨b,o,none⟩) ->
   ((Builtin.firstCells i.size n (.slice xo n xc)) >>= f).run P w'=(f (behind w (n*i.size) xo).toArray).run P w':=by
  intro w' f rC;have hb:behind w' (n*i.size) xo=behind w (n*i.size) xo:=by
   cases xo with
   | none=>rfl
   | some a=>simp only [behind,cellD,rC]
  rw [<-hb];refine aF (IR (hx.imp id fun ⟨b,o,h1,h2⟩=>⟨b,o,h1,fun o' g1 g2 => ?_⟩));rw [rC];exact h2 o' g1 g2
 have hl:(Builtin.lenOf (.slice xo n xc)).run P w = .ok n w:=rfl;unfold Builtin.append_;simp only [sU,FR,FU];simp only [aF (run_underlying hE.slice w)];simp only [aF (run_sizeOf hE.info w)];simp only [aF (run_underlying ht2 w)];simp only [aF (run_pure _ P w),eQ,if_false,mF,if_true,false_or];simp only [aF hl];by_cases hc:len+n<=cap
 ·simp only [hc,if_true];simp only [hfc w _ fun _ _=>rfl];rcases hs with ⟨rfl,rfl⟩|⟨b,o,rfl,hw⟩
  ·refine .inr (.inl ⟨by omega,rfl,?_⟩);have:len+n=0:=by omega
   rw [this];rfl
  ·refine .inl ⟨b,o,rfl,trivial,?_⟩;simp only [zu];have agM:(behind w (n*i.size) xo).length<=n*i.size:=by cases xo<;>simp [behind]
   have acW:=jg i.size hc;rw [eD] at acW;have:=zw (P:=P) (b:=b) (o:=o+len*i.size) (behind w (n*i.size) xo) 0 w h1 (hw.sub (by omega) (by omega));simp only [rJ] at this;simp only [aF this];rfl
 ·simp only [hc,if_false];have hby:¬(((len+n:Nat):Int) > IntKind.i64.max):=by
   have:IntKind.i64.max=9223372036854775807:=by decide
   rw [this];omega
  simp only [aF (run_typeInfo hE.info w),hby,false_and,if_false];have axk:=nextslicecap_le (len+n) cap (by omega);have uW:¬Builtin.nextslicecap (len+n) cap*i.bytes > 2 ^ 48:=by
   have:=Nat.mul_le_mul axk hE.bytes;have:(2*(len+n)+512)*4096<=2 ^ 48:=by omega
   omega
  simp only [uW,if_false];have NY:(choose (.appendCap (len+n) cap e)).run P w = .ok ((Question.appendCap (len+n) cap e).cut (w.tape w.drawn (.appendCap (len+n) cap e))) (kC w):=rfl;simp only [aF NY];have JU:len+n<=(Question.appendCap (len+n) cap e).cut (w.tape w.drawn (.appendCap (len+n) cap e)):=by
   simp only [Question.cut];omega
  generalize (Question.appendCap (len+n) cap e).cut (w.tape w.drawn (.appendCap (len+n) cap e))=newCap at JU ⊢;have axl:(askRoom (newCap*i.bytes)).run P (kC w) = .ok () (kC w):=by
   unfold askRoom;split<;>rfl
  simp only [aF (run_typeInfo hE.info (kC w)),aF axl];have kg:(Builtin.firstCells i.size len (.slice ao len cap)).run P (kC w) = .ok (behind w (len*i.size) ao).toArray (kC w):=by
   have hb:behind w (len*i.size) ao=behind (kC w) (len*i.size) ao:=by cases ao<;>rfl
   rw [hb];refine IR ?_;rcases hs with ⟨_,rfl⟩|⟨b,o,rfl,hw⟩
   ·exact .inl (by omega)
   ·have acW:=jg i.size bJ;exact .inr ⟨b,o,rfl,hw.rdb.sub (dV _) (by omega)⟩
  simp only [aF kg];simp only [hfc (kC w) _ fun _ _=>rfl];simp only [aF (DZ hE.info hE.zero (kC w)),aF (pV e _ (kC w))];refine .inr (.inr ⟨newCap,(Builtin.zeroCells z.cells (newCap-(len+n))).toList,by omega,JU,?_,?_⟩)
  ·simp [Builtin.zeroCells,hE.zsize]
  ·rw [run_pure];congr 1;congr 1;apply Array.ext';simp
end Go.Fw
namespace Go.Fw
def splice {α:Type} (l:aa α) (off:Nat) (x:aa α):aa α:=l.take off++(x++l.drop (off+x.length))
theorem lK {α:Type} {l x:aa α} {off:Nat} (h:off+x.length<=l.length):(splice l off x).length=l.length:=by
 simp [splice];omega
theorem akL {α:Type} {l:aa α} {off:Nat} {a:α} {x:aa α} (h:off+(a::x).length<=l.length):splice l off (a::x)=splice (l.set off a) (off+1) x:=by
 simp only [bA] at h;unfold splice;simp only [bA];rw [List.drop_set_of_lt (by omega)];rw [show off+1+x.length=off+(x.length+1) from by omega,List.take_set,Og (by omega)];rw [List.set_append_right _ _ (by simp;omega)];have:off-(List.take off l).length=0:=by simp;omega
 rw [this];simp
theorem aoG {α:Type} (l:aa α) (off:Nat):splice l off []=l:=by simp [splice]
theorem foldl_set {x:aa aj}:∀{cells:Array aj} {off k:Nat},off+k+x.length<=cells.size ->
  ((x.zipIdx k).foldl (fun (cs:Array aj) (p:aj × Nat)=>cs.setIfInBounds (off+p.2) p.1) cells).toList=splice cells.toList (off+k) x:=by
 induction x with
 | nil=>intro cells off k _;simp [aoG]
 | cons a x ih=>
  intro cells off k h;simp only [bA] at h;simp only [List.zipIdx_cons,iR];rw [ih (by simp;omega)];rw [akL (by simp;omega)];simp [jm]
def w_ {α:Type} (place:Nat->ah (Nat × Nat)):aa α->aa (Nat × aa α)->ah (aa α)
 | cells,[]=>some cells
 | cells,(i,x)::rest=>match place i with
  | none=>none
  | some (off,size)=>if x.length=size/\off+x.length<=cells.length then w_ place (splice cells off x) rest else none
theorem R9 {place:Nat->ah (Nat × Nat)}:∀{parts:aa (Nat × aj)} {cells:Array aj} {l:aa aj},w_ place cells.toList (parts.map fun p=>(p.1,p.2.cells.toList))=some l ->
  Instr.fill place cells parts=some l.toArray
 | [],cells,l,h=>by simp only [bQ,w_,aK] at h;subst h;simp [Instr.fill]
 | (i,v)::rest,cells,l,h=>by
  simp only [bf,w_] at h
  unfold Instr.fill
  cases hp:place i with
  | none=>simp [hp] at h
  | some os=>
   obtain ⟨off,size⟩:=os
   simp only [hp] at h ⊢
   split at h
   ·rename_i hc
    simp only [RY] at hc
    have:¬((v.cells.size≠size || decide (off+v.cells.size > cells.size))=true):=by simp;omega
    rw [if_neg this]
    refine R9 ?_
    have hz:(Array.foldl (fun cs (x:aj × Nat)=>match x with | (c,j)=>cs.setIfInBounds (off+j) c) cells v.cells.zipIdx).toList=splice cells.toList off v.cells.toList:=by
     rw [<-Array.foldl_toList];have:=foldl_set (x:=v.cells.toList) (cells:=cells) (off:=off) (k:=0) (by simpa using hc.2);simpa [Array.toList_zipIdx] using this
    rw [hz]
    exact h
   ·cases h
theorem afQ {α:Type} (e:Sem α):e.bind Sem.pure=e:=by
 induction e with
 | pure a=>rfl
 | halt h=>rfl
 | load m a k ih=>simp only [Sem.bind];congr 1;funext x;exact ih x
 | store m a v k ih=>simp only [Sem.bind];rw [ih]
 | new o k ih=>simp only [Sem.bind];congr 1;funext x;exact ih x
 | shape r k ih=>simp only [Sem.bind];congr 1;funext x;exact ih x
 | freeze a n k ih=>simp only [Sem.bind];rw [ih]
 | frozen a k ih=>simp only [Sem.bind];congr 1;funext x;exact ih x
 | getObj r k ih=>simp only [Sem.bind];congr 1;funext x;exact ih x
 | setObj r o k ih=>simp only [Sem.bind];rw [ih]
 | choose q k ih=>simp only [Sem.bind];congr 1;funext x;exact ih x
 | sys c k ih=>simp only [Sem.bind];congr 1;funext x;exact ih x
 | program k ih=>simp only [Sem.bind];congr 1;funext x;exact ih x
 | mark m k ih=>simp only [Sem.bind];rw [ih]
theorem abR {α β γ:Type} (e:Sem α) (f:α->Sem β) (g:β->Sem γ):(e.bind f).bind g=e.bind fun a=>(f a).bind g:=by
 induction e with
 | pure a=>rfl
 | halt h=>rfl
 | load m a k ih=>simp only [Sem.bind];congr 1;funext x;exact ih x
 | store m a v k ih=>simp only [Sem.bind];rw [ih]
 | new o k ih=>simp only [Sem.bind];congr 1;funext x;exact ih x
 | shape r k ih=>simp only [Sem.bind];congr 1;funext x;exact ih x
 | freeze a n k ih=>simp only [Sem.bind];rw [ih]
 | frozen a k ih=>simp only [Sem.bind];congr 1;funext x;exact ih x
 | getObj r k ih=>simp only [Sem.bind];congr 1;funext x;exact ih x
 | setObj r o k ih=>simp only [Sem.bind];rw [ih]
 | choose q k ih=>simp only [Sem.bind];congr 1;funext x;exact ih x
 | sys c k ih=>simp only [Sem.bind];congr 1;funext x;exact ih x
 | program k ih=>simp only [Sem.bind];congr 1;funext x;exact ih x
 | mark m k ih=>simp only [Sem.bind];rw [ih]
theorem ac2:LawfulMonad Sem:=
 LawfulMonad.mk' Sem (id_map:=fun x=>afQ x) (pure_bind:=fun _ _=>rfl) (bind_assoc:=fun x f g=>abR x f g)
theorem avV {α β:Type} {P:aR} {f:α->Sem β} {g:α->β} {as:Array α} (h:∀a,a∈as.toList->∀w,(f a).run P w = .ok (g a) w) (w:aA):(as.mapM f).run P w = .ok (as.map g) w:=by
 rw [@Array.mapM_eq_foldlM Sem α β _ ac2 f as,<-Array.foldlM_toList];have key:∀(l:aa α) (acc:Array β),(∀a,a∈l->∀w,(f a).run P w = .ok (g a) w)->(l.foldlM (fun bs a=>bs.push <$> f a) acc:Sem (Array β)).run P w = .ok (acc++(l.map g).toArray) w:=by
  intro l;induction l with
  | nil=>intro acc _;simp [List.foldlM,run_pure]
  | cons a l ih=>
   intro acc hl;simp only [List.foldlM_cons];have:(acc.push <$> f a:Sem (Array β)).run P w = .ok (acc.push (g a)) w:=by
    show ((f a) >>= fun b=>pure (acc.push b)).run P w=_;rw [aF (hl a (by simp) w)];rfl
   rw [aF this,ih _ fun a ha=>hl a (by simp [ha])];congr 1;apply Array.ext';simp
 rw [key as.toList #[] h];congr 1;apply Array.ext';simp
def placesOf (P:aR) (fs:Array Field):aa (Nat × Nat):=fs.toList.map fun f=>(f.offset,((P.info? f.type).map (·.size)).getD 0)
theorem run_build {P:aR} {t:TypeId} {fs:Array Field} {i:TypeInfo} {z:aj} {parts:Array (Nat × aj)} {l:aa aj} {w:aA} (hu:P.underlying t=some (.struct fs))
  (hi:P.info? t=some i) (hz:i.zero=some z) (hf:fs.toList.all (fun f=>(P.info? f.type).isSome)=true)
  (hl:w_ (fun k=>(placesOf P fs)[k]?) z.cells.toList (parts.toList.map fun p=>(p.1,p.2.cells.toList))=some l):(Instr.build t parts).run P w = .ok (.agg l.toArray) w:=by
 unfold Instr.build;rw [aF (DZ hi hz w)];simp only;rw [aF (run_underlying hu w)];simp only;have hm:=avV (P:=P) (f:=fun f:Field=>(do pure (f.offset,<-sizeOf f.type):Sem (Nat × Nat))) (g:=fun f=>(f.offset,((P.info? f.type).map (·.size)).getD 0)) (as:=fs) (by
  intro a ha w
  have:=bW.1 hf a ha
  obtain ⟨ia,hia⟩:=Option.isSome_iff_exists.1 this
  rw [aF (run_sizeOf hia w)]
  simp [hia,run_pure]) w
 rw [aF hm];have h2:(fun k:Nat=>(fs.map fun f:Field=>(f.offset,((P.info? f.type).map (·.size)).getD 0))[k]?)=fun k:Nat=>(placesOf P fs)[k]?:=by
  funext k;simp [placesOf]
 rw [h2,R9 hl];rfl
theorem run_buildSlice {P:aR} {t e:TypeId} {i:TypeInfo} {z:aj} {n:Nat} {parts:Array (Nat × aj)} {l:aa aj} {w:aA} (hE:Om P t e i z) (hn:n*i.size<=16777216)
  (hl:w_ (fun k=>some (k*i.size,i.size)) ((List.replicate n z.cells.toList).flatten) (parts.toList.map fun p=>(p.1,p.2.cells.toList))=some l) :
  (Instr.buildSlice t n parts).run P w = .ok (.slice (some ⟨w.heap.size,0,none⟩) n n) (gu w l.toArray e):=by
 unfold Instr.buildSlice;rw [aF (run_underlying hE.slice w)];simp only;rw [aF (run_sizeOf hE.info w)];have h0:¬n*i.size > 2 ^ 24:=by omega
 simp only [h0,if_false];have agN:∀zc:Array aj,(n≠0->zc=z.cells)->((Array.range (n*i.size)).map (zc[· % zc.size]!)).toList=(List.replicate n z.cells.toList).flatten:=by
  intro zc hzc;by_cases pu:n=0
  ·subst pu;simp
  ·rw [hzc pu,Xh,Array.toList_range];have dM:=hE.zsize;have yN:=hE.pos;apply R6
   ·simp [dM]
   ·intro k h1 h2;simp only [fE,qU] at h1;rw [List.getElem_map,List.getElem_range];rw [<-dM] at h1 yN;have hk:k % z.cells.size<z.cells.size:=Nat.mod_lt _ yN;have key:∀(n k:Nat),k<n*z.cells.size->((List.replicate n z.cells.toList).flatten)[k]?=some (z.cells[k % z.cells.size]'(Nat.mod_lt _ yN)):=by
     intro n;induction n with
     | zero=>intro k hk;omega
     | succ n ih=>
      intro k hk;rw [List.replicate_succ,J8,List.getElem?_append];split
      ·rename_i bZ;have aj_:k<z.cells.size:=by simpa using bZ
       simp [Nat.mod_eq_of_lt aj_,aj_]
      ·rename_i JU;have axm:z.cells.size<=k:=by simpa using JU
       rw [eD,A_] at hk;rw [show z.cells.toList.length=z.cells.size from by simp,ih _ (by omega)];congr 1;congr 1;rw [Nat.mod_eq_sub_mod axm]
    have:=key n k h1;rw [aZ h2] at this;simp only [aK] at this;rw [this];simp [hk]
 by_cases pu:n*i.size=0
 ·have hn1:n=0:=by
   have:=hE.pos;rcases Nat.mul_eq_zero.1 pu with h|h<;>omega
  have hf:=agN #[] fun h=>absurd hn1 h
  simp only [pu,if_true,aF (run_pure _ P w)];rw [R9 (l:=l) (by rw [<-hl,<-hf,pu])];simp only [aF (pV e _ w)];rfl
 ·have hf:=agN z.cells fun _=>rfl
  simp only [pu,if_false];rw [aF (DZ hE.info hE.zero w),aF (run_pure _ P w)];rw [R9 (l:=l) (by rw [<-hl,<-hf])];simp only [aF (pV e _ w)];rfl
theorem Xm {z:aj} {size:Nat} (dM:z.cells.size=size) (yN:0<size) (n:Nat) (zc:Array aj) (hzc:n≠0->zc=z.cells) :
  ((Array.range (n*size)).map (zc[· % zc.size]!)).toList=(List.replicate n z.cells.toList).flatten:=by
 by_cases pu:n=0
 ·subst pu;simp
 ·rw [hzc pu,Xh,Array.toList_range];apply R6
  ·simp [dM]
  ·intro k h1 h2;simp only [fE,qU] at h1;rw [List.getElem_map,List.getElem_range];rw [<-dM] at h1 yN;have hk:k % z.cells.size<z.cells.size:=Nat.mod_lt _ yN;have key:∀(n k:Nat),k<n*z.cells.size->((List.replicate n z.cells.toList).flatten)[k]?=some (z.cells[k % z.cells.size]'(Nat.mod_lt _ yN)):=by
    intro n;induction n with
    | zero=>intro k hk;omega
    | succ n ih=>
     intro k hk;rw [List.replicate_succ,J8,List.getElem?_append];split
     ·rename_i bZ;have aj_:k<z.cells.size:=by simpa using bZ
      simp [Nat.mod_eq_of_lt aj_,aj_]
     ·rename_i JU;have axm:z.cells.size<=k:=by simpa using JU
      rw [eD,A_] at hk;rw [show z.cells.toList.length=z.cells.size from by simp,ih _ (by omega)];congr 1;congr 1;rw [Nat.mod_eq_sub_mod axm]
   have:=key n k h1;rw [aZ h2] at this;simp only [aK] at this;rw [this];simp [hk]
theorem run_makeSlice {P:aR} {t e:TypeId} {i:TypeInfo} {z:aj} {n:Nat} {k:IntKind} {w:aA} (hE:Om P t e i z) (hn:n<=4294967296) :
  (Instr.makeSlice t (.int k (n:Int)) (.int k (n:Int))).run P w =
   .ok (.slice (some ⟨w.heap.size,0,none⟩) n n) (gu w ((List.replicate n z.cells.toList).flatten).toArray e):=by
 unfold Instr.makeSlice;rw [aF (run_underlying hE.slice w)];simp only;have fG:(asInt (.int k (n:Int))).run P w = .ok (n:Int) w:=rfl;rw [aF fG,aF fG,aF (run_typeInfo hE.info w)];have hwr:IntKind.i64.wrap (n:Int)=n:=IntWalk.i64_in _ (by omega);have hb:=hE.bytes;have acW:i.bytes*n<=4096*4294967296:=Nat.mul_le_mul hb hn;have aGg:¬((i.bytes:Int)*(n:Int) > 2 ^ 48):=by
  rw [<-Int.natCast_mul];generalize i.bytes*n=q at acW;omega
 have aCI:¬((n:Int)<0):=by omega
 simp only [hwr];rw [if_neg (by
  simp only [iQ,decide_eq_true_eq,not_or]
  exact ⟨⟨⟨aCI,aGg⟩,aCI⟩,by omega⟩)]
 have axl:(askRoom ((n:Int).toNat*i.bytes)).run P w = .ok () w:=by
  unfold askRoom;split<;>rfl
 rw [aF axl,aF (run_sizeOf hE.info w)];simp only [eH];by_cases pu:n*i.size=0
 ·have hn1:n=0:=by
   have:=hE.pos;rcases Nat.mul_eq_zero.1 pu with h|h<;>omega
  have hf:=Xm hE.zsize hE.pos n #[] fun h=>absurd hn1 h
  simp only [pu,if_true,aF (run_pure _ P w)];rw [aF (pV e _ w),<-hf,pu];subst hn1;rfl
 ·have hf:=Xm hE.zsize hE.pos n z.cells fun _=>rfl
  simp only [pu,if_false];rw [aF (DZ hE.info hE.zero w),aF (run_pure _ P w),aF (pV e _ w),<-hf];rfl
end Go.Fw
namespace Go.Fw
def iV (d:Nat) (p:Pl):ah Pl:=if p.1=d then none else some p
section
variable {ac:Nat->Nat->aj} {κ0 κ:aP} {w0 w w':aA} {N:Nat} {tg:Nat->TT} {sv:Nat->AV} {tm:Nat->aj}
def kI (tg:Nat->TT) (d:Nat) (tag:TT):Nat->TT:=upd (fun t=>(tg t).kill [d] []) d tag
theorem nI (h:R ac κ0 w0 κ w N tg sv tm) {d:Nat} (hd:d<N) {tag:TT} {av:AV} {x:aj} {nb:ah (Nat × Pl)} (hw:Grows w w')
  (oz:∀b p,nb=some (b,p)->w.heap.size<=b/\b<w'.heap.size)
  (ht:TR ac (aW κ (iV d) nb) w' (kI tg d tag) (upd sv d av) (upd tm d x) d tag) :
  R ac κ0 w0 (aW κ (iV d) nb) w' N (kI tg d tag) (upd sv d av) (upd tm d x):=by
 refine abP (mods:=[d]) (M:=[]) h (by have:=h.nle;simp;omega) hw (fun r q hr => ?_) (fun r q p hp _ => ?_) oz (fun r hr => ?_) (fun r hr => ?_) (fun r hr => ?_) (fun t m_ => ?_) (fun t lV => ?_)
 ·simp at hr;simp [iV,hr]
 ·unfold iV at hp;split at hp
  ·cases hp
  ·cases hp;rfl
 ·simp at hr;simp [kI,upd,hr]
 ·simp at hr;simp [upd,hr]
 ·simp at hr;simp [upd,hr]
 ·simp at m_;subst m_;simpa [kI,upd] using ht
 ·have bv:t≠d:=by omega
  simp [kI,upd,bv,h.out t lV,TT.kill]
theorem Kh (cs:aa CT):cs.map (oH [])=cs:=by
 have:oH []=id:=by funext c;exact ac0 c
 rw [this];simp
theorem azG {κ':aP} {tg':Nat->TT} {d:Nat} {y:aj} (hy:sc y=true) :
  TR ac κ' w' tg' (upd sv d (.v [.v y] [])) (upd tm d y) d (.val false [.d]):=by
 simp only [TR,bI];refine ⟨_,[y],rfl,?_,rfl,?_,?_⟩
 ·cases y<;>simp [sc] at hy<;>rfl
 ·intro k j c e hk;cases k<;>simp at hk
 ·simp only [aB,RC];exact ⟨⟨rfl,hy⟩,trivial⟩
end
end Go.Fw
namespace Go.Fw
mutual
def CT.nown:CT->Bool
 | .d=>true
 | .sl (.own _) _=>false
 | .sl _ e=>CT.nowns e
def CT.nowns:aa CT->Bool
 | []=>true
 | c::cs=>c.nown&&CT.nowns cs
end
mutual
def CT.srcs:CT->aa Nat
 | .d=>[]
 | .sl (.ro S) e=>S++CT.srcss e
 | .sl _ e=>CT.srcss e
def CT.srcss:aa CT->aa Nat
 | []=>[]
 | c::cs=>c.srcs++CT.srcss cs
end
mutual
theorem ar3 {S:aa Nat}:∀{c:CT},(∀r,r∈c.srcs->r∈S)->c.allS (fun S0=>∀r,r∈S0->r∈S)
 | .d,_=>by simp [CT.allS]
 | .sl (.ro S0) e,h=>by
  simp only [CT.srcs,bP] at h;simp only [CT.allS];exact ⟨fun r hr=>h r (.inl hr),kN fun r hr=>h r (.inr hr)⟩
 | .sl (.own _) e,h=>by simp only [CT.srcs] at h;simp only [CT.allS];exact kN h
 | .sl .dead e,h=>by simp only [CT.srcs] at h;simp only [CT.allS];exact kN h
theorem kN {S:aa Nat}:∀{cs:aa CT},(∀r,r∈CT.srcss cs->r∈S)->CT.allSs (fun S0=>∀r,r∈S0->r∈S) cs
 | [],_=>by simp [CT.allSs]
 | c::cs,h=>by
  simp only [CT.srcss,bP] at h;simp only [CT.allSs];exact ⟨ar3 fun r hr=>h r (.inl hr),kN fun r hr=>h r (.inr hr)⟩
end
mutual
theorem ac3 {P:aa Nat->Prop} (h:∀S,P S):∀c:CT,c.allS P
 | .d=>by simp [CT.allS]
 | .sl (.ro S0) e=>by simp only [CT.allS];exact ⟨h S0,iK h e⟩
 | .sl (.own _) e=>by simp only [CT.allS];exact iK h e
 | .sl .dead e=>by simp only [CT.allS];exact iK h e
theorem iK {P:aa Nat->Prop} (h:∀S,P S):∀cs:aa CT,CT.allSs P cs
 | []=>by simp [CT.allSs]
 | c::cs=>by simp only [CT.allSs];exact ⟨ac3 h c,iK h cs⟩
end
mutual
theorem aoH (S:aa Nat):∀c:CT,(c.roize S).nown=true
 | .d=>by simp [CT.roize,CT.nown]
 | .sl _ e=>by simp [CT.roize,CT.nown,oJ S e]
theorem oJ (S:aa Nat):∀cs:aa CT,CT.nowns (CT.roizes S cs)=true
 | []=>by simp [CT.roizes,CT.nowns]
 | c::cs=>by simp [CT.roizes,CT.nowns,aoH S c,oJ S cs]
end
mutual
theorem aoI (S:aa Nat):∀c:CT,(c.roize S).live=true
 | .d=>by simp [CT.roize,CT.live]
 | .sl _ e=>by simp [CT.roize,CT.live,xe S e]
theorem xe (S:aa Nat):∀cs:aa CT,CT.lives (CT.roizes S cs)=true
 | []=>by simp [CT.roizes,CT.lives]
 | c::cs=>by simp [CT.roizes,CT.lives,aoI S c,xe S cs]
end
section copy
variable {κ κ':aP} {w w':aA} {P:aa Nat->Prop}
mutual
theorem abS (bz:∀S,P S->∀b,bu κ w S b->bu κ' w' S b/\Same w w' b):∀{c:CT} {p p':Pl} {x:aj} {a:A},c.nown=true->c.allS P->RC κ w c p x a->RC κ' w' c p' x a
 | .d,_,_,_,.v _,_,_,h=>by simp only [RC] at h ⊢;exact h
 | .sl (.ro S) e,p,p',x,.s xs,hn,hs,h=>by
  simp only [RC,CT.allS,CT.nown] at h hs hn ⊢;obtain ⟨ao,cap,hx,dD,hc⟩:=h;refine ⟨ao,cap,hx,dD,?_⟩;rcases hc with h0|⟨b,o,rfl,hb,hr,he⟩
  ·exact .inl h0
  ·obtain ⟨di,gy⟩:=bz S hs.1 b hb;refine .inr ⟨b,o,rfl,di,gy.rdb hr,?_⟩;refine IM (fun i _ hi => ?_) (Vs bz hn hs.2 he);exact gy.cD hr (by omega) (by omega)
 | .sl .dead e,_,_,_,a,_,_,_=>by cases a<;>simp [RC]
 | .sl (.own _) _,_,_,_,_,hn,_,_=>by simp [CT.nown] at hn
 | .d,_,_,_,.s _,_,_,h=>by simp [RC] at h
 | .sl (.ro _) _,_,_,_,.v _,_,_,h=>by simp [RC] at h
theorem ac4 (bz:∀S,P S->∀b,bu κ w S b->bu κ' w' S b/\Same w w' b):∀{cs:aa CT} {p p':Pl} {j:Nat} {get:Nat->aj} {as:aa A},CT.nowns cs=true->CT.allSs P cs ->
  aB κ w cs p j get as->aB κ' w' cs p' j get as
 | [],_,_,_,_,[],_,_,_=>by simp [aB]
 | c::cs,p,p',j,get,a::as,hn,hs,h=>by
  simp only [CT.allSs,CT.nowns,aM,aB] at h hs hn ⊢;exact ⟨abS bz hn.1 hs.1 h.1,ac4 bz hn.2 hs.2 h.2⟩
 | [],_,_,_,_,_::_,_,_,h=>by simp [aB] at h
 | _::_,_,_,_,_,[],_,_,h=>by simp [aB] at h
theorem Vs (bz:∀S,P S->∀b,bu κ w S b->bu κ' w' S b/\Same w w' b):∀{e:aa CT} {p p':Pl} {j:Nat} {get:Nat->aj} {xs:aa (aa A)},CT.nowns e=true->CT.allSs P e ->
  dF κ w e p j get xs->dF κ' w' e p' j get xs
 | _,_,_,_,_,[],_,_,_=>by simp [dF]
 | e,p,p',j,get,x::xs,hn,hs,h=>by
  simp only [dF] at h ⊢;exact ⟨ac4 bz hn hs h.1,Vs bz hn hs h.2⟩
end
theorem jU (bz:∀S,P S->∀b,bu κ w S b->bu κ' w' S b/\Same w w' b) {cs:aa CT} {p p':Pl} {j j':Nat} {get get':Nat->aj} {as:aa A} (hn:CT.nowns cs=true) (hs:CT.allSs P cs)
  (hg:∀i,i<cs.length->get' (j'+i)=get (j+i)) (h:aB κ w cs p j get as):aB κ' w' cs p' j' get' as:=by
 induction cs generalizing j j' as with
 | nil=>cases as with
  | nil=>simp [aB]
  | cons=>simp [aB] at h
 | cons c cs ih=>
  cases as with
  | nil=>simp [aB] at h
  | cons a as=>
   simp only [CT.allSs,CT.nowns,aM,aB] at h hs hn ⊢;refine ⟨?_,ih hn.2 hs.2 (fun i hi => ?_) h.2⟩
   ·have:=hg 0 (by simp);simp at this;rw [this];exact abS bz hn.1 hs.1 h.1
   ·have:=hg (i+1) (by simpa using hi);rw [show j'+1+i=j'+(i+1) from by omega,show j+1+i=j+(i+1) from by omega];exact this
end copy
theorem aDR {κ:aP} {w:aA} {c:CT} {p:Pl} {x:aj} {a:A} (hl:c.live=true) (h:RC κ w c p x a):x≠undef:=by
 cases c with
 | d=>
  cases a with
  | v y=>simp only [RC] at h;obtain ⟨rfl,hs⟩:=h;rintro rfl;simp [undef,sc] at hs
  | s xs=>simp [RC] at h
 | sl m e=>
  cases m with
  | dead=>simp [CT.live] at hl
  | own k=>
   cases a with
   | v y=>simp [RC] at h
   | s xs=>simp only [RC] at h;obtain ⟨_,_,rfl,_⟩:=h;simp [undef]
  | ro S=>
   cases a with
   | v y=>simp [RC] at h
   | s xs=>simp only [RC] at h;obtain ⟨_,_,rfl,_⟩:=h;simp [undef]
theorem rQ:∀{cs:aa CT} {k:Nat} {c:CT},CT.lives cs=true->cs[k]?=some c->c.live=true
 | c::cs,0,c',h,hc=>by simp at hc;subst hc;simp only [CT.lives,aM] at h;exact h.1
 | c::cs,k+1,c',h,hc=>by simp only [CT.lives,aM] at h;exact rQ h.2 (by simpa using hc)
 | [],_,_,_,hc=>by simp at hc
theorem ar4 {κ:aP} {w:aA} {cs:aa CT} {p:Pl} {j:Nat} {get:Nat->aj} {as:aa A} (hl:CT.lives cs=true) (h:aB κ w cs p j get as) (k:Nat) (hk:k<cs.length):get (j+k)≠undef:=by
 have bJ:=dH h;exact aDR (rQ hl (aZ hk)) (gZ h (aZ hk) (aZ (by omega)))
theorem mI {κ:aP} {w w':aA} {d:Nat} {nb:ah (Nat × Pl)} (hw:Grows w w') (oz:∀b p,nb=some (b,p)->w.heap.size<=b) (S:aa Nat) (b:Nat) (h:bu κ w S b) :
  bu (aW κ (iV d) nb) w' S b/\Same w w' b:=by
 refine ⟨⟨mU h.1 hw.size,fun r p hr => ?_⟩,hw.same b⟩;have jF:(κ b).bind (iV d)=some (r,p):=by
  unfold aW at hr;cases nb with
  | none=>exact hr
  | some q=>
   obtain ⟨b',p'⟩:=q;have:=oz b' p' rfl;have:=h.1;simp only at hr;rwa [if_neg (by omega)] at hr
 cases hk:κ b with
 | none=>simp [hk] at jF
 | some p0=>
  simp only [hk,af,iV] at jF;split at jF
  ·cases jF
  ·cases jF;exact h.2 r p hk
theorem xf {κ:aP} {w:aA} {d r b:Nat} {q:aa Nat} (hr:r≠d) (h:κ b=some (r,q)) (_:∀b,w.heap.size<=b->κ b=none):aW κ (iV d) none b=some (r,q):=by
 simp [aW,h,iV,hr]
section ops
variable {ac:Nat->Nat->aj} {κ0 κ:aP} {w0 w w':aA} {N:Nat} {tg:Nat->TT} {sv:Nat->AV} {tm:Nat->aj}
theorem Oo (h:R ac κ0 w0 κ w N tg sv tm) {d:Nat} (hd:d<N) {y:aj} (hy:sc y=true) (hw:Grows w w') :
  R ac κ0 w0 (aW κ (iV d) none) w' N (kI tg d (.val false [.d])) (upd sv d (.v [.v y] [])) (upd tm d y):=
 nI h hd hw (fun _ _ h=>by cases h) (azG hy)
theorem aAZ (h:R ac κ0 w0 κ w N tg sv tm) {d t:Nat} (hd:d<N) {ag:Bool} {cs:aa CT} (ht:tg t = .val ag cs) (hn:CT.nowns cs=true) {as:aa A} (hs:sv t = .v as []) :
  R ac κ0 w0 (aW κ (iV d) none) w N (kI tg d (.val ag cs)) (upd sv d (.v as [])) (upd tm d (tm t)):=by
 refine nI h hd (Grows.refl w) (fun _ _ h=>by cases h) ?_;have h1:=h.tr t;rw [ht] at h1;simp only [TR,bI] at h1 ⊢;obtain ⟨as',vs,g1,g2,g3,g4,g5⟩:=h1;rw [hs] at g1;cases g1;exact ⟨as,vs,rfl,g2,g3,g4,jU (P:=fun _=>True) (fun S _ b hb=>mI (Grows.refl w) (fun _ _ h=>by cases h) S b hb) hn (iK (fun _=>trivial) cs) (fun _ _=>rfl) g5⟩
theorem azH (h:R ac κ0 w0 κ w N tg sv tm) {d t:Nat} (hd:d<N) (zi:t≠d) {ag:Bool} {cs:aa CT} (ht:tg t = .val ag cs) (hl:CT.lives cs=true) {as:aa A} (hs:sv t = .v as []) {S:aa Nat}
  (hS:t∈S) (hS2:∀r,r∈CT.srcss cs->r∈S) :
  R ac κ0 w0 (aW κ (iV d) none) w N (kI tg d (.alias ag (CT.roizes S cs) t [] 0 S)) (upd sv d (.v as [])) (upd tm d (tm t)):=by
 refine nI h hd (Grows.refl w) (fun _ _ h=>by cases h) ?_;have h1:=h.tr t;rw [ht] at h1;simp only [TR,bI,kI,upd_ne _ _ _ zi,ht,TT.kill,Kh] at h1 ⊢;obtain ⟨as',vs,g1,g2,g3,g4,g5⟩:=h1;rw [hs] at g1;cases g1;have mQ:=fun S b hb=>mI (κ:=κ) (w:=w) (w':=w) (d:=d) (nb:=none) (Grows.refl w) (fun _ _ h=>by cases h) S b hb
 have g6:aB κ w (CT.roizes S cs) (d,[]) 0 (fun k=>vs.getD k undef) as:=R7 hl hS (kN hS2) (fun _ _=>rfl) g5;have g7:aB (aW κ (iV d) none) w (CT.roizes S cs) (d,[]) 0 (fun k=>vs.getD k undef) as:=
  jU (P:=fun _=>True) (fun S _ b hb=>mQ S b hb) (oJ S cs) (iK (fun _=>trivial) _) (fun _ _=>rfl) g6
 have lF:rg w (.val ag cs) (tm t)=fun k=>vs.getD k undef:=by funext k;simp [rg,g2]
 refine ⟨as,[],vs,_,as,as,rfl,g2,by rw [dE];exact g3,xe S cs,g7,by rw [lF];rfl,by simp [PO],fun b hb=>by simp [rb] at hb,fun h=>absurd rfl h,fun k hk=>⟨by simp,?_⟩,hs,rfl,?_⟩
 ·rw [dE] at hk;have:=ar4 hl g5 k hk;simpa using this
 ·have:=dH g5;rw [dE,FY,CS (by omega)]
theorem ar5 (h:R ac κ0 w0 κ w N tg sv tm) {d t:Nat} (hd:d<N) {ag:Bool} {cs:aa CT} {r:Nat} {sk:Sk} {off:Nat} {S:aa Nat} (ht:tg t = .alias ag cs r sk off S) (hr:r≠d) (hn:CT.nowns cs=true) :
  R ac κ0 w0 (aW κ (iV d) none) w N (kI tg d (.alias ag cs r sk off S)) (upd sv d (sv t)) (upd tm d (tm t)):=by
 refine nI h hd (Grows.refl w) (fun _ _ h=>by cases h) ?_;have h1:=h.tr t;rw [ht] at h1;have mQ:=fun S b hb=>mI (κ:=κ) (w:=w) (w':=w) (d:=d) (nb:=none) (Grows.refl w) (fun _ _ h=>by cases h) S b hb
 simp only [TR,bI,kI,upd_ne _ _ _ hr,(nG w [d] [] (tg r) (tm r)).2,show rg w ((tg r).kill [d] []) (tm r)=rg w (tg r) (tm r) from (nG w [d] [] (tg r) (tm r)).1] at h1 ⊢;obtain ⟨as,is,vs,g,ra,row,h1,h2,h3,hl,h4,h5,h6,h7,h8,h9,h10,h11,gT⟩:=h1;have h6':PO (aW κ (iV d) none) w S (rg w (tg r) (tm r)) sk is:=by
  cases sk with
  | nil=>simp [PO]
  | cons s sk=>
   simp only [gq,cO] at h5;obtain ⟨BO,h5,_⟩:=h5;exact (zq (mQ S) (fun k _=>rfl) h6 h5).2
 exact ⟨as,is,vs,g,ra,row,h1,h2,h3,hl,jU (P:=fun _=>True) (fun S _ b hb=>mQ S b hb) hn (iK (fun _=>trivial) _) (fun _ _=>rfl) h4,h5,h6',fun b hb=>xf hr (h7 b hb) h.col,h8,h9,h10,h11,gT⟩
theorem azI (h:R ac κ0 w0 κ w N tg sv tm) {d t:Nat} (hd:d<N) {r:Nat} {sk:Sk} {off:Nat} {S:aa Nat} (ht:tg t = .ptr r sk off S) (hr:r≠d) :
  R ac κ0 w0 (aW κ (iV d) none) w N (kI tg d (.ptr r sk off S)) (upd sv d (sv t)) (upd tm d (tm t)):=by
 refine nI h hd (Grows.refl w) (fun _ _ h=>by cases h) ?_;have h1:=h.tr t;rw [ht] at h1;have mQ:=fun S b hb=>mI (κ:=κ) (w:=w) (w':=w) (d:=d) (nb:=none) (Grows.refl w) (fun _ _ h=>by cases h) S b hb
 simp only [TR,bI,kI,upd_ne _ _ _ hr,(nG w [d] [] (tg r) (tm r)).2,show rg w ((tg r).kill [d] []) (tm r)=rg w (tg r) (tm r) from (nG w [d] [] (tg r) (tm r)).1] at h1 ⊢;obtain ⟨is,B,O,h1,h2,h3,h4,h5⟩:=h1;exact ⟨is,B,O,h1,h2,(zq (mQ S) (fun k _=>rfl) h3 h2).2,fun b hb=>xf hr (h4 b hb) h.col,h5⟩
theorem aDS (h:R ac κ0 w0 κ w N tg sv tm) {d t:Nat} (hd:d<N) (zi:t≠d) {cs:aa CT} (ht:tg t = .box cs) :
  R ac κ0 w0 (aW κ (iV d) none) w N (kI tg d (.ptr t [] 0 [t])) (upd sv d (.p [])) (upd tm d (tm t)):=by
 refine nI h hd (Grows.refl w) (fun _ _ h=>by cases h) ?_;have h1:=h.tr t;rw [ht] at h1;have mQ:=fun S b hb=>mI (κ:=κ) (w:=w) (w':=w) (d:=d) (nb:=none) (Grows.refl w) (fun _ _ h=>by cases h) S b hb
 simp only [TR,bI,kI,upd_ne _ _ _ zi,ht,TT.kill] at h1 ⊢;obtain ⟨as,b,g1,g2,g3,g4,g5,g6,g7⟩:=h1;rw [g2];exact ⟨[],b,0,rfl,by simp [iH,rb,wk],by simp [PO],fun b' di=>by simp [rb] at di;subst di;exact xf zi g4 h.col,rfl⟩
end ops
end Go.Fw
namespace Go.Fw
def t_ (srcs:aa Nat) (d:Nat) (f:Nat->Nat->ah (aa Nat)) (p:Pl):ah Pl:=
 if p.1∈srcs then match p.2 with
  | k::q=>(f p.1 k).map fun P=>(d,P++q)
  | []=>none
 else if p.1=d then none else some p
theorem nJ {κ:aP} {w w':aA} {F:Pl->ah Pl} {nb:ah (Nat × Pl)} {M S:aa Nat} (hw:Grows w w') (hM:∀r q p,F (r,q)=some p->r∉M->p=(r,q))
  (oz:∀b p,nb=some (b,p)->w.heap.size<=b) (hS:∀m,m∈M->m∉S) (b:Nat) (h:bu κ w S b):bu (aW κ F nb) w' S b/\Same w w' b:=by
 refine ⟨⟨mU h.1 hw.size,fun r p hr => ?_⟩,hw.same b⟩;have jF:(κ b).bind F=some (r,p):=by
  unfold aW at hr;cases nb with
  | none=>exact hr
  | some q=>
   obtain ⟨b',p'⟩:=q;have:=oz b' p' rfl;have:=h.1;simp only at hr;rwa [if_neg (by omega)] at hr
 cases hk:κ b with
 | none=>simp [hk] at jF
 | some p0=>
  obtain ⟨r0,q0⟩:=p0;simp only [hk,af] at jF;by_cases hm:r0∈M
  ·exact absurd (h.2 r0 q0 hk).1 (hS r0 hm)
  ·have:=hM r0 q0 _ jF hm;cases this;exact h.2 _ _ hk
theorem rR {κ:aP} {w:aA} {F:Pl->ah Pl} {nb:ah (Nat × Pl)} (oz:∀b p,nb=some (b,p)->w.heap.size<=b) (hc:∀b,w.heap.size<=b->κ b=none) {b:Nat} {p:Pl} (h:κ b=some p) :
  aW κ F nb b=F p:=by
 have hb:b<w.heap.size:=by
  apply sW;intro dD;rw [hc b dD] at h;cases h
 unfold aW;cases nb with
 | none=>simp [h]
 | some q=>
  obtain ⟨b',p'⟩:=q;have:=oz b' p' rfl;simp only;rw [if_neg (by omega),h];rfl
theorem aoJ {srcs:aa Nat} {d:Nat} {f:Nat->Nat->ah (aa Nat)}:∀r q p,t_ srcs d f (r,q)=some p->r∉srcs->p=(r,q):=by
 intro r q p h hr;unfold t_ at h;simp only [hr,if_false] at h;split at h
 ·cases h
 ·cases h;rfl
structure Part (κ:aP) (w:World) (srcs:List Nat) (t:Nat) (cs:List CT) (vs:List Value) (as:List A):Prop where
 row:aB κ w cs (t,[]) 0 (fun k=>vs.getD k undef) as
 len:vs.length=cs.length
 own:t∈srcs\/CT.nowns cs=true
 men:CT.mens srcs cs=false
section
variable {ac:Nat->Nat->aj} {κ0 κ:aP} {w0 w w':aA} {N:Nat} {tg:Nat->TT} {sv:Nat->AV} {tm:Nat->aj}
theorem xg {srcs:aa Nat} {d t:Nat} {f:Nat->Nat->ah (aa Nat)} {nb:ah (Nat × Pl)} {Q:aa Nat} {off:Nat} {cs:aa CT} {vs:aa aj} {as:aa A} {get:Nat->aj}
  (hw:Grows w w') (oz:∀b p,nb=some (b,p)->w.heap.size<=b) (hc:∀b,w.heap.size<=b->κ b=none) (hp:Part κ w srcs t cs vs as)
  (hf:∀k,k<cs.length->t∈srcs->f t k=some (Q++[off+k])) (hg:∀i,i<cs.length->get (off+i)=vs.getD i undef) :
  aB (aW κ (t_ srcs d f) nb) w' cs (d,Q) off get as:=by
 have bz:∀S,(∀m,m∈srcs->m∉S)->∀b,bu κ w S b->bu (aW κ (t_ srcs d f) nb) w' S b/\Same w w' b:=
  fun S hS b hb=>nJ hw aoJ oz hS b hb
 have hs:CT.allSs (fun S=>∀m,m∈srcs->m∉S) cs:=fw (fun S hS=>hS) hp.men;by_cases ht:t∈srcs
 ·have:=gH (f:=id) (κ':=aW κ (t_ srcs d f) nb) (w':=w') (p':=(d,Q)) (get':=get) (j':=off) bz hs (fun i hi b q hb=>⟨?_,hw.same b⟩) (fun i hi=>by simpa using hg i hi) hp.row
  ·rwa [iU] at this
  ·rw [rR oz hc hb];simp only [t_,ht,if_true,dN,cB];rw [hf i hi ht];simp
 ·have hn:CT.nowns cs=true:=hp.own.resolve_left ht;exact jU bz hn hs (fun i hi=>by simpa using hg i hi) hp.row
theorem DN (h:R ac κ0 w0 κ w N tg sv tm) {d:Nat} (hd:d<N) {srcs:aa Nat} (qz:FB∉srcs) {f:Nat->Nat->ah (aa Nat)} {tag:TT} {av:AV} {x:aj} {nb:ah (Nat × Pl)} (hw:Grows w w')
  (oz:∀b p,nb=some (b,p)->w.heap.size<=b/\b<w'.heap.size) {tg':Nat->TT} (sK:tg'=upd (fun t=>if t∈srcs then .dead else (tg t).kill (d::srcs) srcs) d tag)
  (ht:TR ac (aW κ (t_ srcs d f) nb) w' tg' (upd sv d av) (upd tm d x) d tag) :
  R ac κ0 w0 (aW κ (t_ srcs d f) nb) w' N tg' (upd sv d av) (upd tm d x):=by
 subst sK;refine abP (mods:=d::srcs) (M:=srcs) h (by have:=h.nle;simp only [aY,not_or];exact ⟨by omega,qz⟩) hw (fun r q hr => ?_) aoJ oz (fun r hr => ?_) (fun r hr => ?_) (fun r hr => ?_) (fun t m_ => ?_) (fun t lV => ?_)
 ·simp at hr;simp [t_,hr]
 ·simp at hr;simp [upd,hr]
 ·simp at hr;simp [upd,hr]
 ·simp at hr;simp [upd,hr]
 ·by_cases fZ:t=d
  ·subst fZ;simpa [upd] using ht
  ·simp [fZ] at m_;simp [upd,fZ,m_,TR]
 ·have bv:t≠d:=by omega
  simp only [upd,bv,if_false];split
  ·rfl
  ·simp [h.out t lV,TT.kill]
theorem aA0 (h:R ac κ0 w0 κ w N tg sv tm) {d t:Nat} (hd:d<N) (lV:t<N) {ag:Bool} {cs:aa CT} (ht:tg t = .val ag cs) (hm:CT.mens [t] cs=false) {as:aa A} (hs:sv t = .v as []) :
  R ac κ0 w0 (aW κ (t_ [t] d fun _ k=>some [k]) none) w N (upd (fun u=>if u∈[t] then .dead else (tg u).kill [d,t] [t]) d (.val ag cs)) (upd sv d (.v as [])) (upd tm d (tm t)):=by
 refine DN h hd (by have:=h.nle;simp;omega) (Grows.refl w) (fun _ _ h=>by cases h) rfl ?_;have h1:=h.tr t;rw [ht] at h1;simp only [TR,bI] at h1 ⊢;obtain ⟨as',vs,g1,g2,g3,g4,g5⟩:=h1;rw [hs] at g1;cases g1;exact ⟨as,vs,rfl,g2,g3,g4,xg (Grows.refl w) (fun _ _ h=>by cases h) h.col ⟨g5,g3,.inl (by simp),hm⟩ (fun k _ _=>by simp) (fun i _=>by simp)⟩
theorem azJ (h:R ac κ0 w0 κ w N tg sv tm) {d t:Nat} (hd:d<N) (lV:t<N) {ws:aa (Bool × Nat)} {cs:aa CT} (ht:tg t = .tup ws cs) (hm:CT.mens [t] cs=false) {as:aa A} (hs:sv t = .v as []) :
  R ac κ0 w0 (aW κ (t_ [t] d fun _ k=>some [k]) none) w N (upd (fun u=>if u∈[t] then .dead else (tg u).kill [d,t] [t]) d (.tup ws cs)) (upd sv d (.v as [])) (upd tm d (tm t)):=by
 refine DN h hd (by have:=h.nle;simp;omega) (Grows.refl w) (fun _ _ h=>by cases h) rfl ?_;have h1:=h.tr t;rw [ht] at h1;simp only [TR,bI] at h1 ⊢;obtain ⟨as',xs,vs,g1,g2,g3,g4,g5⟩:=h1;rw [hs] at g1;cases g1;exact ⟨as,xs,vs,rfl,g2,g3,g4,xg (Grows.refl w) (fun _ _ h=>by cases h) h.col ⟨g5,g4,.inl (by simp),hm⟩ (fun k _ _=>by simp) (fun i _=>by simp)⟩
theorem aDT (h:R ac κ0 w0 κ w N tg sv tm) {d t:Nat} (hd:d<N) {srcs:aa Nat} (qz:FB∉srcs) {cs:aa CT} {vs:aa aj} {as:aa A} (hp:Part κ w srcs t cs vs as) (Cq:rO ac cs fun k=>vs.getD k undef)
  {cells:Array aj} (jK:cells.toList=vs) (ty:TypeId) :
  R ac κ0 w0 (aW κ (t_ srcs d fun _ k=>some [k]) (some (w.heap.size,(d,[])))) (gu w cells ty) N (upd (fun u=>if u∈srcs then .dead else (tg u).kill (d::srcs) srcs) d (.box cs))
   (upd sv d (.v as [])) (upd tm d (.pointer (some ⟨w.heap.size,0,none⟩))):=by
 have dM:cells.size=cs.length:=by rw [<-hp.len,<-jK];simp
 refine DN h hd qz (uz w cells ty) (fun b p h=>by cases h;simp [gu]) rfl ?_;simp only [TR,bI];have hcd:∀i,cellD (gu w cells ty) w.heap.size i=vs.getD i undef:=fun i=>by rw [Hu,jK]
 refine ⟨as,w.heap.size,rfl,rfl,by simp [gu],by simp [aW],Oi w cells ty 0 _ (by omega),?_,?_⟩
 ·intro k j c e hk;rw [hcd];exact Cq k j c e hk
 ·exact xg (uz w cells ty) (fun b p h=>by cases h;exact dV _) h.col hp (fun k _ _=>by simp) (fun i _=>by rw [cB];exact hcd i)
end
end Go.Fw
namespace Go.Fw
theorem Xn {κ:aP} {w:aA} {p:Pl} {C cs:aa CT} {V vs:aa aj} {As as:aa A} {off:Nat} (h:aB κ w C p 0 (fun k=>V.getD k undef) As) (hV:V.length=C.length)
  (h':aB κ w cs p off (fun k=>vs.getD (k-off) undef) as) (hl:vs.length=cs.length) (ho:off+cs.length<=C.length) :
  aB κ w (splice C off cs) p 0 (fun k=>(splice V off vs).getD k undef) (splice As off as):=by
 have hA:=dH h;have ha:=dH h';unfold splice;have h1:=mH off h;have h3:=mG (off+cs.length) h;refine C9 (mD (fun i _ hi => ?_) h1) (C9 (mD (get:=fun k=>vs.getD (k-off) undef) (fun i h2 hi => ?_) ?_) (mD (get:=fun k=>V.getD k undef) (fun i h2 hi => ?_) ?_))
 ·simp at hi;simp only [dA];rw [rH (by simp;omega),qR (by omega)]
 ·simp at h2 hi;simp only [dA];rw [vE (by simp;omega),rH (by simp;omega)];congr 2;simp;omega
 ·rw [show 0+(List.take off C).length=off from by simp;omega];exact h'
 ·simp at h2 hi;simp only [dA];rw [vE (by simp;omega),vE (by simp;omega),oF];congr 2;simp;omega
 ·rw [show 0+(List.take off C).length+cs.length=0+(off+cs.length) from by simp;omega,ha];exact h3
def ZR:aa CT->aa aj->aa A->Prop
 | [],[],[]=>True
 | .d::cs,x::vs,.v y::as=>x=y/\sc y=true/\ZR cs vs as
 | .sl _ _::cs,x::vs,.s []::as=>x = .slice none 0 0/\ZR cs vs as
 | _,_,_=>False
theorem IU {κ:aP} {w:aA} {p:Pl}:∀{cs:aa CT} {vs:aa aj} {as:aa A} {j:Nat} {get:Nat->aj},ZR cs vs as->(∀i,i<cs.length->get (j+i)=vs.getD i undef)->aB κ w cs p j get as
 | [],[],[],_,_,_,_=>by simp [aB]
 | .d::cs,x::vs,.v y::as,j,get,h,hg=>by
  simp only [ZR] at h;simp only [aB,RC];refine ⟨⟨?_,h.2.1⟩,IU h.2.2 fun i hi => ?_⟩
  ·have:=hg 0 (by simp);simp at this;rw [this];exact h.1
  ·have:=hg (i+1) (by simpa using hi);rw [show j+1+i=j+(i+1) from by omega];simpa using this
 | .sl m e::cs,x::vs,.s []::as,j,get,h,hg=>by
  simp only [ZR] at h;simp only [aB];refine ⟨?_,IU h.2 fun i hi => ?_⟩
  ·have:=hg 0 (by simp);simp at this;rw [this,h.1];cases m with
   | dead=>simp [RC]
   | own k=>simp only [RC];exact ⟨none,0,by simp,by simp,.inl ⟨rfl,rfl⟩⟩
   | ro S=>simp only [RC];exact ⟨none,0,by simp,by simp,.inl trivial⟩
  ·have:=hg (i+1) (by simpa using hi);rw [show j+1+i=j+(i+1) from by omega];simpa using this
 | [],[],_::_,_,_,h,_=>by simp [ZR] at h
 | [],_::_,_,_,_,h,_=>by simp [ZR] at h
 | .d::_,[],_,_,_,h,_=>by simp [ZR] at h
 | .d::_,_::_,[],_,_,h,_=>by simp [ZR] at h
 | .d::_,_::_,.s _::_,_,_,h,_=>by simp [ZR] at h
 | .sl _ _::_,[],_,_,_,h,_=>by simp [ZR] at h
 | .sl _ _::_,_::_,[],_,_,h,_=>by simp [ZR] at h
 | .sl _ _::_,_::_,.v _::_,_,_,h,_=>by simp [ZR] at h
 | .sl _ _::_,_::_,.s (_::_)::_,_,_,h,_=>by simp [ZR] at h
theorem D5:∀{cs:aa CT} {vs:aa aj} {as:aa A},ZR cs vs as->vs.length=cs.length
 | [],[],[],_=>rfl
 | .d::cs,x::vs,.v y::as,h=>by simp only [ZR] at h;simp [D5 h.2.2]
 | .sl m e::cs,x::vs,.s []::as,h=>by simp only [ZR] at h;simp [D5 h.2]
 | [],[],_::_,h=>by simp [ZR] at h
 | [],_::_,_,h=>by simp [ZR] at h
 | .d::_,[],_,h=>by simp [ZR] at h
 | .d::_,_::_,[],h=>by simp [ZR] at h
 | .d::_,_::_,.s _::_,h=>by simp [ZR] at h
 | .sl _ _::_,[],_,h=>by simp [ZR] at h
 | .sl _ _::_,_::_,[],h=>by simp [ZR] at h
 | .sl _ _::_,_::_,.v _::_,h=>by simp [ZR] at h
 | .sl _ _::_,_::_,.s (_::_)::_,h=>by simp [ZR] at h
def h_ (cs:aa CT):Bool:=cs.all fun c=>match c with
 | .sl (.own (some _)) _=>false
 | _=>true
theorem gK {ac:Nat->Nat->aj} {cs:aa CT} {get:Nat->aj} (h:h_ cs=true):rO ac cs get:=by
 intro k j c e hk;have:=bW.1 h _ (iA hk);simp at this
structure Pt where
 off:Nat
 t:Nat
 cs:List CT
 vs:List Value
 as:List A
def jl {α:Type} (sel:Pt->aa α):aa α->aa Pt->aa α
 | l,[]=>l
 | l,p::ps=>jl sel (splice l p.off (sel p)) ps
def aoK (n:Nat) (ps:aa Pt):Prop:=∀p,p∈ps->p.off+p.cs.length<=n
theorem ac5 {κ:aP} {w:aA} {pl:Pl}:∀{ps:aa Pt} {C:aa CT} {V:aa aj} {As:aa A},aB κ w C pl 0 (fun k=>V.getD k undef) As->V.length=C.length->aoK C.length ps ->
  (∀p,p∈ps->aB κ w p.cs pl p.off (fun k=>p.vs.getD (k-p.off) undef) p.as/\p.vs.length=p.cs.length) ->
  aB κ w (jl Pt.cs C ps) pl 0 (fun k=>(jl Pt.vs V ps).getD k undef) (jl Pt.as As ps)/\(jl Pt.vs V ps).length=(jl Pt.cs C ps).length
 | [],C,V,As,h,hV,_,_=>⟨h,hV⟩
 | p::ps,C,V,As,h,hV,hf,hp=>by
  obtain ⟨h1,h2⟩:=hp p (by simp);have h3:=hf p (by simp);simp only [jl];have hC:(splice C p.off p.cs).length=C.length:=lK h3;refine ac5 (Xn h hV h1 h2 h3) ?_ (fun q hq=>by rw [hC];exact hf q (by simp [hq])) fun q hq=>hp q (by simp [hq])
  rw [hC,lK (by omega),hV]
section
variable {ac:Nat->Nat->aj} {κ0 κ:aP} {w0 w w':aA} {N:Nat} {tg:Nat->TT} {sv:Nat->AV} {tm:Nat->aj}
def ptF (Q:Nat->Nat->aa Nat) (ps:aa Pt) (t k:Nat):ah (aa Nat):=(ps.find? fun p=>p.t == t).map fun p=>Q p.off k
def axH (srcs:aa Nat) (ps:aa Pt):Prop:=∀p,p∈ps->p.t∈srcs->ps.find? (fun q=>q.t == p.t)=some p
theorem azK (h:R ac κ0 w0 κ w N tg sv tm) {d:Nat} (hd:d<N) {srcs:aa Nat} (qz:FB∉srcs) {Z:aa CT} {ZV:aa aj} {ZA:aa A} (hz:ZR Z ZV ZA) {ps:aa Pt}
  (hp:∀p,p∈ps->Part κ w srcs p.t p.cs p.vs p.as) (ho:axH srcs ps) (hf:aoK Z.length ps) (Cq:h_ (jl Pt.cs Z ps)=true) :
  R ac κ0 w0 (aW κ (t_ srcs d (ptF (fun o k=>[o+k]) ps)) none) w N (upd (fun u=>if u∈srcs then .dead else (tg u).kill (d::srcs) srcs) d (.val true (jl Pt.cs Z ps)))
   (upd sv d (.v (jl Pt.as ZA ps) [])) (upd tm d (.agg (jl Pt.vs ZV ps).toArray)):=by
 refine DN h hd qz (Grows.refl w) (fun b p h=>by cases h) rfl ?_;simp only [TR,bI];have cZ:=ac5 (κ:=aW κ (t_ srcs d (ptF (fun o k=>[o+k]) ps)) none) (w:=w) (pl:=(d,[])) (ps:=ps) (C:=Z) (V:=ZV) (As:=ZA) (IU hz fun i _=>by simp) (D5 hz) hf (fun p hpp=>
  ⟨xg (Grows.refl w) (fun _ _ h=>by cases h) h.col (hp p hpp) (fun k hk ht=>by simp [ptF,ho p hpp ht]) (fun i _=>by simp),(hp p hpp).len⟩)
 exact ⟨_,_,rfl,rfl,cZ.2,gK Cq,cZ.1⟩
theorem agV (h:R ac κ0 w0 κ w N tg sv tm) {d:Nat} (hd:d<N) {srcs:aa Nat} (qz:FB∉srcs) {f:Nat->Nat->ah (aa Nat)} {e:aa CT} {xs:aa (aa A)} {cells:Array aj} {ty:TypeId} {cap:Nat}
  (axk:xs.length<=cap) (dM:cap*e.length<=cells.size)
  (cZ:∀(κ':aP) (w':aA),κ'=aW κ (t_ srcs d f) (some (w.heap.size,(d,[0])))->w'=gu w cells ty->dF κ' w' e (d,[0]) 0 (fun k=>cells.toList.getD k undef) xs) :
  R ac κ0 w0 (aW κ (t_ srcs d f) (some (w.heap.size,(d,[0])))) (gu w cells ty) N (upd (fun u=>if u∈srcs then .dead else (tg u).kill (d::srcs) srcs) d (.val false [.sl (.own none) e]))
   (upd sv d (.v [.s xs] [])) (upd tm d (.slice (some ⟨w.heap.size,0,none⟩) xs.length cap)):=by
 refine DN h hd qz (uz w cells ty) (fun b p h=>by cases h;simp [gu]) rfl ?_;simp only [TR,bI];refine ⟨_,[.slice (some ⟨w.heap.size,0,none⟩) xs.length cap],rfl,rfl,rfl,?_,?_⟩
 ·intro k j c e hk;cases k<;>simp at hk
 ·simp only [aB,RC];refine ⟨⟨_,cap,by simp,axk,.inr ⟨w.heap.size,0,rfl,by simp [gu],by simp [aW,Pl.at],Oi w cells ty 0 _ (by omega),?_⟩⟩,trivial⟩;have:=cZ _ _ rfl rfl;simp only [cB,Hu];simpa [Pl.at] using this
end
end Go.Fw
namespace Go.Fw
structure IV (κ:aP) (w:World) (tg:Nat->TT) (tm:Nat->Value) (r:Nat) (sk:Sk) (is S:List Nat) (B O:Nat):Prop where
 addr:iH w (rg w (tg r) (tm r)) (rb (tg r) (tm r)) sk is=some (B,O)
 po:PO κ w S (rg w (tg r) (tm r)) sk is
 root:∀b,rb (tg r) (tm r)=some b->κ b=some (r,[])
def TT.cts:TT->ah (aa CT)
 | .val _ cs=>some cs
 | .box cs=>some cs
 | _=>none
section
variable {ac:Nat->Nat->aj} {κ0 κ:aP} {w0 w w':aA} {N:Nat} {tg:Nat->TT} {sv:Nat->AV} {tm:Nat->aj}
theorem R.pla_ptr (h:R ac κ0 w0 κ w N tg sv tm) {t r:Nat} {sk:Sk} {off:Nat} {S is:aa Nat} (ht:tg t = .ptr r sk off S) (hs:sv t = .p is) :
  ∃B O,IV κ w tg tm r sk is S B O/\tm t = .pointer (some ⟨B,O+off,none⟩):=by
 have h1:=h.tr t;rw [ht] at h1;simp only [TR] at h1;obtain ⟨is',B,O,g1,g2,g3,g4,g5⟩:=h1;rw [hs] at g1;cases g1;exact ⟨B,O,⟨g2,g3,g4⟩,g5⟩
theorem R.pla_box (h:R ac κ0 w0 κ w N tg sv tm) {t:Nat} {cs:aa CT} (ht:tg t = .box cs) :
  ∃B,IV κ w tg tm t [] [] [t] B 0/\tm t = .pointer (some ⟨B,0+0,none⟩):=by
 have h1:=h.tr t;rw [ht] at h1;simp only [TR] at h1;obtain ⟨as,b,g1,g2,g3,g4,g5,g6,g7⟩:=h1;refine ⟨b,⟨by simp [iH,wk,rb,ht,g2],by simp [PO],fun b' di => ?_⟩,g2⟩;simp [rb,ht,g2] at di;subst di;exact g4
theorem R.root (h:R ac κ0 w0 κ w N tg sv tm) {r:Nat} {cs:aa CT} (ht:(tg r).cts=some cs) {ra:aa A} (hs:sv r = .v ra []) :
  aB κ w cs (r,[]) 0 (rg w (tg r) (tm r)) ra:=by
 have h1:=h.tr r;cases hT:tg r with
 | val ag cs'=>
  rw [hT] at h1 ht;simp only [TT.cts,aK] at ht;subst ht;simp only [TR] at h1;obtain ⟨as,vs,g1,g2,g3,g4,g5⟩:=h1;rw [hs] at g1;cases g1;have:rg w (.val ag cs') (tm r)=fun k=>vs.getD k undef:=by funext k;simp [rg,g2]
  rw [this];exact g5
 | box cs'=>
  rw [hT] at h1 ht;simp only [TT.cts,aK] at ht;subst ht;simp only [TR] at h1;obtain ⟨as,b,g1,g2,g3,g4,g5,g6,g7⟩:=h1;rw [hs] at g1;cases g1;have:rg w (.box cs') (tm r)=cellD w b:=by funext k;simp [rg,g2]
  rw [this];exact g7
 | dead=>rw [hT] at ht;simp [TT.cts] at ht
 | alias=>rw [hT] at ht;simp [TT.cts] at ht
 | ptr=>rw [hT] at ht;simp [TT.cts] at ht
 | tup=>rw [hT] at ht;simp [TT.cts] at ht
theorem R.row (h:R ac κ0 w0 κ w N tg sv tm) {r:Nat} {cs e:aa CT} {sk:Sk} {is S:aa Nat} {B O:Nat} (ht:(tg r).cts=some cs) {ra row:aa A} (hs:sv r = .v ra [])
  (hp:IV κ w tg tm r sk is S B O) (he:iF false cs sk=some e) (hl:b_ ra sk is=some row) :
  ∃o p j,O=o+j/\Rdb w B O (O+e.length)/\aB κ w e (r,p) j (fun k=>cellD w B (o+k)) row:=by
 have h0:=h.root ht hs;cases sk with
 | nil=>
  cases is with
  | cons=>simp [b_] at hl
  | nil=>
   simp only [b_,aK,iF] at hl he;subst hl;subst he;have ha:=hp.addr;simp only [iH,wk,cO] at ha;obtain ⟨b,hb,hbo⟩:=ha;simp only [bU] at hbo;obtain ⟨rfl,rfl⟩:=hbo;cases hT:tg r with
   | box cs'=>
    have h1:=h.tr r;rw [hT] at h1 ht;simp only [TT.cts,aK] at ht;subst ht;simp only [TR] at h1;obtain ⟨as,b',g1,g2,g3,g4,g5,g6,g7⟩:=h1;rw [hs] at g1;cases g1;simp [rb,hT,g2] at hb;subst hb;refine ⟨0,[],0,rfl,by simpa using g5.rdb,?_⟩;simpa using g7
   | _=>rw [hT] at hb;simp [rb] at hb
 | cons s sk=>
  obtain ⟨b,o,g1,g2,g3⟩:=ar0 (bo:=(rb (tg r) (tm r)).map fun b=>(b,0)) (by simp) h0 he hl;have ha:=hp.addr;simp only [iH] at ha;simp only [cB] at g1;rw [ha] at g1;simp only [aK,bU] at g1;obtain ⟨rfl,rfl⟩:=g1;exact ⟨o,_,_,rfl,g2,g3⟩
theorem tq {n:Nat} {f:Nat->aj} {k:Nat} (hk:k<n):((List.range n).map f).getD k undef=f k:=by
 simp [hk]
theorem Oq {g:Bool} {v:aj} {n:Nat} {f:Nat->aj} (h1:g=true->v = .agg ((List.range n).map f).toArray) (h0:g=false->v=f 0/\n=1) (hs:g=false->∀vs,f 0≠.agg vs/\f 0≠.tuple vs) :
  cellsOf g v=some ((List.range n).map f):=by
 cases g with
 | true=>rw [h1 rfl];simp [cellsOf]
 | false=>
  obtain ⟨rfl,rfl⟩:=h0 rfl;have:=hs rfl;cases hf:f 0 with
  | agg vs=>exact absurd hf (this vs).1
  | tuple vs=>exact absurd hf (this vs).2
  | _=>simp [cellsOf,hf]
theorem IW {κ:aP} {w:aA} {c:CT} {p:Pl} {x:aj} {a:A} (hl:c.live=true) (h:RC κ w c p x a):rP x=true:=by
 cases c with
 | d=>
  cases a with
  | v y=>simp only [RC] at h;obtain ⟨rfl,hs⟩:=h;cases x<;>simp_all [sc,rP]
  | s xs=>simp [RC] at h
 | sl m e=>
  cases m with
  | dead=>simp [CT.live] at hl
  | own k=>
   cases a with
   | v y=>simp [RC] at h
   | s xs=>simp only [RC] at h;obtain ⟨_,_,rfl,_⟩:=h;simp [rP]
  | ro S=>
   cases a with
   | v y=>simp [RC] at h
   | s xs=>simp only [RC] at h;obtain ⟨_,_,rfl,_⟩:=h;simp [rP]
theorem R_ {x:aj} (h:rP x=true):∀vs,x≠.agg vs/\x≠.tuple vs:=by
 intro vs;constructor<;>(rintro rfl;simp [rP] at h)
theorem aA2 (h:R ac κ0 w0 κ w N tg sv tm) {d r:Nat} (hd:d<N) {cs e:aa CT} {sk:Sk} {is S:aa Nat} {B O off n:Nat} (ht:(tg r).cts=some cs) {ra row:aa A} (hs:sv r = .v ra [])
  (hp:IV κ w tg tm r sk is S B O) (he:iF false cs sk=some e) (hl:b_ ra sk is=some row) (hn:off+n<=e.length) (arB:CT.nowns ((e.drop off).take n)=true) (jy:h_ ((e.drop off).take n)=true)
  {g:Bool} {v:aj} (h1:g=true->v = .agg ((List.range n).map fun k=>cellD w B (O+off+k)).toArray) (h0:g=false->v=cellD w B (O+off)/\n=1) (MK:CT.lives ((e.drop off).take n)=true) :
  R ac κ0 w0 (aW κ (iV d) none) w N (kI tg d (.val g ((e.drop off).take n))) (upd sv d (.v ((row.drop off).take n) [])) (upd tm d v):=by
 obtain ⟨o,p,j,rfl,hr,cZ⟩:=h.row ht hs hp he hl;have gX:=mH n (mG off cZ);have bJ:((e.drop off).take n).length=n:=by simp;omega
 have Al:∀i,i<((e.drop off).take n).length->((List.range n).map fun k=>cellD w B (o+j+off+k)).getD (0+i) undef=cellD w B (o+(j+off+i)):=by
  intro i hi;rw [bJ] at hi;rw [cB,tq hi];congr 1;omega
 refine nI h hd (Grows.refl w) (fun _ _ h=>by cases h) ?_;simp only [TR,bI];refine ⟨_,(List.range n).map fun k=>cellD w B (o+j+off+k),rfl,?_,by simp [bJ],gK jy,?_⟩
 ·refine Oq h1 h0 fun hg => ?_
  have hn1:=(h0 hg).2;have:=gZ (k:=0) gX (aZ (by omega)) (aZ (by rw [dH gX];omega));have hf:=IW (rQ MK (aZ (by omega))) this;have:=R_ hf;simpa [jm] using this
 ·exact jU (P:=fun _=>True) (fun S _ b hb=>mI (Grows.refl w) (fun _ _ h=>by cases h) S b hb) arB (iK (fun _=>trivial) _) (fun i hi=>Al i hi) gX
theorem azL (h:R ac κ0 w0 κ w N tg sv tm) {d r:Nat} (hd:d<N) (FE:r≠d) {cs e:aa CT} {sk:Sk} {is S S':aa Nat} {B O off n:Nat} (ht:(tg r).cts=some cs) {ra row:aa A} (hs:sv r = .v ra [])
  (hp:IV κ w tg tm r sk is S B O) (he:iF false cs sk=some e) (hl:b_ ra sk is=some row) (hn:off+n<=e.length)
  {g:Bool} {v:aj} (h1:g=true->v = .agg ((List.range n).map fun k=>cellD w B (O+off+k)).toArray) (h0:g=false->v=cellD w B (O+off)/\n=1) (MK:CT.lives ((e.drop off).take n)=true)
  (hr:r∈S') (hS:∀q,q∈S->q∈S') (hS2:∀q,q∈CT.srcss ((e.drop off).take n)->q∈S') :
  R ac κ0 w0 (aW κ (iV d) none) w N (kI tg d (.alias g (CT.roizes S' ((e.drop off).take n)) r sk off S')) (upd sv d (.v ((row.drop off).take n) is)) (upd tm d v):=by
 have NZ:=hp;obtain ⟨o,p,j,hO,FF,cZ⟩:=h.row ht hs hp he hl;subst hO;have gX:=mH n (mG off cZ);have bJ:((e.drop off).take n).length=n:=by simp;omega
 have Al:∀i,i<((e.drop off).take n).length->((List.range n).map fun k=>cellD w B (o+j+off+k)).getD (0+i) undef=cellD w B (o+(j+off+i)):=by
  intro i hi;rw [bJ] at hi;rw [cB,tq hi];congr 1;omega
 have mQ:=fun S b hb=>mI (κ:=κ) (w:=w) (w':=w) (d:=d) (nb:=none) (Grows.refl w) (fun _ _ h=>by cases h) S b hb
 refine nI h hd (Grows.refl w) (fun _ _ h=>by cases h) ?_;simp only [TR,bI,kI,upd_ne _ _ _ FE,(nG w [d] [] (tg r) (tm r)).2,show rg w ((tg r).kill [d] []) (tm r)=rg w (tg r) (tm r) from (nG w [d] [] (tg r) (tm r)).1];have hpo:PO κ w S' (rg w (tg r) (tm r)) sk is:=PO_mono hS hp.po;have aGh:PO (aW κ (iV d) none) w S' (rg w (tg r) (tm r)) sk is:=(zq (mQ S') (fun k _=>rfl) hpo hp.addr).2;have g6:aB κ w (CT.roizes S' ((e.drop off).take n)) (d,[]) 0 (fun k=>((List.range n).map fun k=>cellD w B (o+j+off+k)).getD k undef) ((row.drop off).take n):=
  R7 MK hr (kN hS2) (fun i hi=>Al i hi) gX
 have bv:∀k,k<n->cellD w B (o+j+off+k)≠undef:=by
  intro k hk;have:=ar4 MK gX k (by rw [bJ];exact hk);simpa [jm] using this
 obtain ⟨gf,hgf,hgk⟩:∃gf,gq w (rg w (tg r) (tm r)) sk is=some gf/\∀k,k<n->gf (off+k)=cellD w B (o+j+off+k):=by
  cases sk with
  | nil=>
   cases is with
   | cons=>simp [b_] at hl
   | nil=>
    refine ⟨_,rfl,fun k hk => ?_⟩;have ha:=hp.addr;simp only [iH,wk,cO,bU] at ha;obtain ⟨b,hb,rfl,h00⟩:=ha;have:o+j=0:=by omega
    rw [this,cB];cases hT:tg r with
    | box cs'=>
     rw [hT] at hb;cases hx:tm r with
     | pointer a=>
      cases a with
      | none=>rw [hx] at hb;simp [rb] at hb
      | some a=>rw [hx] at hb;simp [rb] at hb;subst hb;simp [rg]
     | _=>rw [hx] at hb;simp [rb] at hb
    | _=>rw [hT] at hb;simp [rb] at hb
  | cons s sk=>
   refine ⟨fun k=>cellD w B (o+j+k),?_,fun k _=>by simp only [jm]⟩;have ha:=hp.addr;simp only [iH] at ha;simp only [gq];rw [wk_bo (by simp) none ha];rfl
 refine ⟨_,is,(List.range n).map fun k=>cellD w B (o+j+off+k),gf,ra,row,rfl,?_,by simp [dE,bJ],xe _ _,
  jU (P:=fun _=>True) (fun S _ b hb=>mQ S b hb) (oJ _ _) (iK (fun _=>trivial) _) (fun _ _=>rfl) g6,hgf,aGh,fun b hb=>xf FE (hp.root b hb) h.col,fun _=>hr,fun k hk => ?_,?_,hl,by rw [dE,bJ]⟩
 ·refine Oq h1 h0 fun hg => ?_
  have hn1:=(h0 hg).2;have:=gZ (k:=0) gX (aZ (by omega)) (aZ (by rw [dH gX];omega));have hf:=IW (rQ MK (aZ (by omega))) this;have:=R_ hf;simpa [jm] using this
 ·rw [dE,bJ] at hk;rw [tq hk];exact ⟨hgk k hk,bv k hk⟩
 ·exact hs
where
 PO_mono {κ:aP} {w:World} {S S':List Nat} (hS:∀q,q∈S->q∈S'):∀{sk:Sk} {is:List Nat} {g:Nat->Value},PO κ w S g sk is->PO κ w S' g sk is
  | [],_,_,_=>by simp [PO]
  | _::_,[],_,_=>by simp [PO]
  | (c,n)::sk,i::is,g,h=>by
   simp only [PO] at h ⊢
   split
   ·rename_i a _ _ hx
    simp only [hx] at h
    exact ⟨FZ h.1 hS,PO_mono hS h.2⟩
   ·trivial
 wk_bo {w:World}:∀{sk:Sk} {is:List Nat} {g:Nat->Value} {bo:Option (Nat × Nat)} {x:Nat × Nat},sk≠[]->∀bo':Option (Nat × Nat),wk w g bo sk is=some x->wk w g bo' sk is=some x
  | [],_,_,_,_,h,_,_=>absurd rfl h
  | _::_,[],_,_,_,_,_,h=>by simp [wk] at h
  | (c,n)::sk,i::is,g,bo,x,_,bo',h=>by simp only [wk] at h ⊢;exact h
end
end Go.Fw
namespace Go.Fw
def iW (r off n d:Nat) (p:Pl):ah Pl:=
 if p.1=r then match p.2 with
  | k::q=>if off<=k/\k<off+n then some (d,(k-off)::q) else some (r,k::q)
  | []=>some (r,[])
 else if p.1=d then none else some p
def ww:CT->CT
 | .sl _ e=>.sl .dead e
 | .d=>.d
def iT (off n:Nat):aa CT->aa CT
 | cs=>cs.zipIdx.map fun p=>if off<=p.2/\p.2<off+n then ww p.1 else p.1
theorem jo (off n:Nat) (cs:aa CT):(iT off n cs).length=cs.length:=by simp [iT]
theorem wy (off n:Nat) (cs:aa CT) (k:Nat):(iT off n cs)[k]?=(cs[k]?).map fun c=>if off<=k/\k<off+n then ww c else c:=by
 simp [iT,List.getElem?_zipIdx];cases cs[k]?<;>simp
theorem vG {M:aa Nat}:∀{cs:aa CT} {k:Nat} {c:CT},CT.mens M cs=false->cs[k]?=some c->c.men M=false
 | c::cs,0,c',h,hc=>by simp at hc;subst hc;simp only [CT.mens,nA] at h;exact h.1
 | c::cs,k+1,c',h,hc=>by simp only [CT.mens,nA] at h;exact vG h.2 (by simpa using hc)
 | [],_,_,_,hc=>by simp at hc
theorem ar6 {M:aa Nat} {cs:aa CT} (h:CT.mens M cs=false) (k:Nat):CT.mens M (cs.drop k)=false:=by
 induction k generalizing cs with
 | zero=>simpa using h
 | succ k ih=>cases cs with
  | nil=>simp [CT.mens]
  | cons c cs=>simp only [CT.mens,nA] at h;simpa using ih h.2
theorem ar7 {M:aa Nat} {cs:aa CT} (h:CT.mens M cs=false) (k:Nat):CT.mens M (cs.take k)=false:=by
 induction k generalizing cs with
 | zero=>simp [CT.mens]
 | succ k ih=>cases cs with
  | nil=>simp [CT.mens]
  | cons c cs=>simp only [CT.mens,nA] at h;simp only [CU,CT.mens,nA];exact ⟨h.1,ih h.2⟩
section
variable {ac:Nat->Nat->aj} {κ0 κ:aP} {w0 w w':aA} {N:Nat} {tg:Nat->TT} {sv:Nat->AV} {tm:Nat->aj}
theorem agW {r off n d:Nat}:∀r' q p,iW r off n d (r',q)=some p->r'∉[r]->p=(r',q):=by
 intro r' q p h hr;simp at hr;unfold iW at h;simp only [hr,if_false] at h;split at h
 ·cases h
 ·cases h;rfl
theorem agX (h:R ac κ0 w0 κ w N tg sv tm) {d r:Nat} (hd:d<N) (FE:d≠r) {off n:Nat} {cs:aa CT} {ra:aa A} {get:Nat->aj} {tag':TT}
  (fF:aB κ w cs (r,[]) 0 get ra) (hm:CT.mens [r] cs=false) (hn:off+n<=cs.length) {g:Bool} {x:aj} {vs:aa aj} (hx:cellsOf g x=some vs) (CL:vs.length=n)
  (mr:∀i,i<n->vs.getD i undef=get (off+i)) (Cq:rO ac ((cs.drop off).take n) fun k=>vs.getD k undef)
  (hr:∀(κ':aP),κ'=aW κ (iW r off n d) none->aB κ' w (iT off n cs) (r,[]) 0 get ra->(κ'=aW κ (iW r off n d) none) ->
   TR ac κ' w (upd (upd (fun t=>(tg t).kill [d,r] [r]) r tag') d (.val g ((cs.drop off).take n))) (upd sv d (.v ((ra.drop off).take n) [])) (upd tm d x) r tag') (JV:r<N) :
  R ac κ0 w0 (aW κ (iW r off n d) none) w N (upd (upd (fun t=>(tg t).kill [d,r] [r]) r tag') d (.val g ((cs.drop off).take n))) (upd sv d (.v ((ra.drop off).take n) [])) (upd tm d x):=by
 have kw:∀b p,κ b=some p->aW κ (iW r off n d) none b=iW r off n d p:=fun b p hb=>rR (fun _ _ h=>by cases h) h.col hb
 have bz:∀S,(∀m,m∈[r]->m∉S)->∀b,bu κ w S b->bu (aW κ (iW r off n d) none) w S b/\Same w w b:=
  fun S hS b hb=>nJ (Grows.refl w) agW (fun _ _ h=>by cases h) hS b hb
 refine abP (mods:=[d,r]) (M:=[r]) h (by have:=h.nle;simp;omega) (Grows.refl w) (fun r' q jF => ?_) agW (fun _ _ h=>by cases h) (fun t ht => ?_) (fun t ht => ?_) (fun t ht => ?_) (fun t ht => ?_) (fun t ht => ?_)
 ·simp at jF;simp [iW,jF]
 ·simp at ht;simp [upd,ht]
 ·simp at ht;simp [upd,ht]
 ·simp at ht;simp [upd,ht]
 ·simp at ht;rcases ht with rfl|rfl
  ·rw [bI];simp only [TR,bI];refine ⟨_,vs,rfl,hx,by simp [CL];omega,Cq,?_⟩;have:=gH (f:=id) (P:=fun S=>∀m,m∈[r]->m∉S) (κ':=aW κ (iW r off n t) none) (w':=w) (p':=(t,[])) (j':=0) (get':=fun k=>vs.getD k undef) bz
    (fw (fun S hS=>hS) (ar7 (ar6 hm off) n)) (fun i hi b q hb => ?_) (fun i hi => ?_) (mH n (mG off fF))
   ·rwa [iU] at this
   ·refine ⟨?_,Same.refl w b⟩;rw [kw b _ hb];have jw:i<n:=by simp at hi;omega
    simp only [iW,if_true,dN];rw [if_pos (by omega)];simp
   ·have jw:i<n:=by simp at hi;omega
    simp only [cB];exact mr i jw
  ·rw [upd_ne _ _ _ (ig FE),bI];refine hr _ rfl ?_ rfl;refine lY (by rw [jo];exact dH fF) fun k c a hc ha => ?_
   rw [wy] at hc;cases sJ:cs[k]? with
   | none=>simp [sJ] at hc
   | some c0=>
    simp only [sJ,dx,aK] at hc;have h0:=gZ fF sJ ha;split at hc
    ·subst hc;cases c0 with
     | d=>simp only [ww];cases a with
      | v y=>simp only [RC] at h0 ⊢;exact h0
      | s xs=>simp [RC] at h0
     | sl m e=>simp only [ww,RC]
    ·rename_i hk;subst hc;refine wu (zt (fun S hS=>bz S hS) (vG hm sJ)) (fun b q hb=>⟨?_,Same.refl w b⟩) h0;rw [kw b _ hb];simp only [Pl.at,cB,dN,Ap] at hb ⊢;rw [hb];simp only [iW,if_true];rw [if_neg hk]
 ·have h1:t≠d:=by omega
  have h2:t≠r:=by omega
  simp [upd,h1,h2,h.out t ht,TT.kill]
theorem ar8 (h:R ac κ0 w0 κ w N tg sv tm) {t r:Nat} (lV:t<N) (sM:r<N) (JV:t≠r) {ag:Bool} {cs0 cs:aa CT} {off:Nat} {S:aa Nat} (ht:tg t = .alias ag cs0 r [] off S) (hr:(tg r).cts=some cs)
  (hm:CT.mens [r] cs=false) (hn:off+cs0.length<=cs.length) {as is} (hs:sv t = .v as is) {tag':TT} (arC:tag'=match tg r with | .val g _=>.val g (iT off cs0.length cs) | .box _=>.box (iT off cs0.length cs)|x=>x) :
  R ac κ0 w0 (aW κ (iW r off cs0.length t) none) w N (upd (upd (fun u=>(tg u).kill [t,r] [r]) r tag') t (.val ag ((cs.drop off).take cs0.length))) (upd sv t (.v as [])) tm:=by
 have h1:=h.tr t;rw [ht] at h1;simp only [TR] at h1;obtain ⟨as',is',vs,g,ra,row,g1,g2,g3,gl,g4,g5,g6,g7,g8,g9,g10,g11,g12⟩:=h1;rw [hs] at g1;cases g1;have pK:is=[]:=by
  cases is with
  | nil=>rfl
  | cons=>simp [gq] at g5
 subst pK;simp only [gq,aK] at g5;subst g5;simp only [b_,aK] at g11;subst g11;have fF:=h.root hr g10;have hk:=h.tr r;have qx:upd tm t (tm t)=tm:=by funext u;simp only [upd];split<;>simp_all
 rw [<-qx,g12];refine agX h lV JV fF hm hn g2 g3 (fun i hi=>(g9 i hi).1.symm) ?_ (fun κ' hκ AZ _ => ?_) sM
 ·-- pins
  intro k j c e hc;have mR:k<cs0.length:=by
   have:=(bn hc).1;simp at this;omega
  show vs.getD k undef=ac j c;rw [<-(g9 k mR).1];have iZ:cs[off+k]?=some (.sl (.own (some (j,c))) e):=by
   rw [qR mR,oF] at hc;exact hc
  cases hT:tg r with
  | val gg cs'=>
   rw [hT] at hk hr;simp only [TT.cts,aK] at hr;subst hr;simp only [TR] at hk;obtain ⟨as2,vs2,k1,k2,k3,k4,k5⟩:=hk;have:=k4 (off+k) j c e iZ;simp [rg,k2] at this ⊢;exact this
  | box cs'=>
   rw [hT] at hk hr;simp only [TT.cts,aK] at hr;subst hr;simp only [TR] at hk;obtain ⟨as2,b,k1,k2,k3,k4,k5,k6,k7⟩:=hk;have:=k6 (off+k) j c e iZ;simp [rg,k2] at this ⊢;exact this
  | dead=>rw [hT] at hr;simp [TT.cts] at hr
  | alias=>rw [hT] at hr;simp [TT.cts] at hr
  | ptr=>rw [hT] at hr;simp [TT.cts] at hr
  | tup=>rw [hT] at hr;simp [TT.cts] at hr
 ·subst arC;have hpd:∀get,rO ac cs get->rO ac (iT off cs0.length cs) get:=by
   intro get hp k j c e hc;rw [wy] at hc;cases sJ:cs[k]? with
   | none=>simp [sJ] at hc
   | some c0=>
    simp only [sJ,dx,aK] at hc;split at hc
    ·cases c0<;>simp [ww] at hc
    ·exact hp k j c e (by rw [sJ,hc])
  cases hT:tg r with
  | val gg cs'=>
   rw [hT] at hk hr AZ;simp only [TT.cts,aK] at hr;subst hr;simp only [TR,upd_ne _ _ _ (ig JV)] at hk ⊢;obtain ⟨as2,vs2,k1,k2,k3,k4,k5⟩:=hk;rw [g10] at k1;cases k1;have:rg w (.val gg cs') (tm r)=fun k=>vs2.getD k undef:=by funext k;simp [rg,k2]
   rw [this] at AZ;exact ⟨_,vs2,g10,k2,by rw [jo];exact k3,hpd _ k4,AZ⟩
  | box cs'=>
   rw [hT] at hk hr AZ;simp only [TT.cts,aK] at hr;subst hr;simp only [TR,upd_ne _ _ _ (ig JV)] at hk ⊢;obtain ⟨as2,b,k1,k2,k3,k4,k5,k6,k7⟩:=hk;rw [g10] at k1;cases k1;have:rg w (.box cs') (tm r)=cellD w b:=by funext k;simp [rg,k2]
   rw [this] at AZ;refine ⟨_,b,g10,k2,k3,?_,by rw [jo];exact k5,hpd _ k6,AZ⟩;rw [hκ,rR (fun _ _ h=>by cases h) h.col k4];simp [iW]
  | dead=>rw [hT] at hr;simp [TT.cts] at hr
  | alias=>rw [hT] at hr;simp [TT.cts] at hr
  | ptr=>rw [hT] at hr;simp [TT.cts] at hr
  | tup=>rw [hT] at hr;simp [TT.cts] at hr
end
end Go.Fw
namespace Go.Fw
section
variable {ac:Nat->Nat->aj} {κ0 κ:aP} {w0 w w':aA} {N:Nat} {tg:Nat->TT} {sv:Nat->AV} {tm:Nat->aj}
theorem ar9 (h:R ac κ0 w0 κ w N tg sv tm) {d t:Nat} (hd:d<N) (lV:t<N) (zi:d≠t) {ws:aa (Bool × Nat)} {cs:aa CT} (ht:tg t = .tup ws cs) (hm:CT.mens [t] cs=false)
  {off n:Nat} (hn:off+n<=cs.length) {g:Bool} {x:aj} {as:aa A} (hs:sv t = .v as []) (jy:h_ ((cs.drop off).take n)=true)
  (hx:∀xs vs,tm t = .tuple xs->u_ ws xs.toList=some vs->cellsOf g x=some ((vs.drop off).take n)) :
  R ac κ0 w0 (aW κ (iW t off n d) none) w N (upd (upd (fun u=>(tg u).kill [d,t] [t]) t (.tup ws (iT off n cs))) d (.val g ((cs.drop off).take n))) (upd sv d (.v ((as.drop off).take n) [])) (upd tm d x):=by
 have h1:=h.tr t;rw [ht] at h1;simp only [TR] at h1;obtain ⟨as',xs,vs,g1,g2,g3,g4,g5⟩:=h1;rw [hs] at g1;cases g1;have mr:∀i,i<n->((vs.drop off).take n).getD i undef=vs.getD (off+i) undef:=by
  intro i hi;simp only [dA];rw [qR hi,oF]
 refine agX h hd zi g5 hm hn (hx xs vs g2 g3) (by simp;omega) mr (gK jy) (fun κ' hκ AZ _ => ?_) lV;simp only [TR,upd_ne _ _ _ (ig zi)];exact ⟨_,xs,vs,hs,g2,g3,by rw [jo];exact g4,AZ⟩
theorem agY (h:R ac κ0 w0 κ w N tg sv tm) {d r:Nat} (hd:d<N) (hr:r≠d) {sk:Sk} {is S:aa Nat} {B O off:Nat} (hp:IV κ w tg tm r sk is S B O) :
  R ac κ0 w0 (aW κ (iV d) none) w N (kI tg d (.ptr r sk off S)) (upd sv d (.p is)) (upd tm d (.pointer (some ⟨B,O+off,none⟩))):=by
 refine nI h hd (Grows.refl w) (fun _ _ h=>by cases h) ?_;have mQ:=fun S b hb=>mI (κ:=κ) (w:=w) (w':=w) (d:=d) (nb:=none) (Grows.refl w) (fun _ _ h=>by cases h) S b hb
 simp only [TR,bI,kI,upd_ne _ _ _ hr,(nG w [d] [] (tg r) (tm r)).2,show rg w ((tg r).kill [d] []) (tm r)=rg w (tg r) (tm r) from (nG w [d] [] (tg r) (tm r)).1];exact ⟨is,B,O,rfl,hp.addr,(zq (mQ S) (fun k _=>rfl) hp.po hp.addr).2,fun b hb=>xf hr (hp.root b hb) h.col,rfl⟩
theorem Sa {w:aA} {c n i b o len cap:Nat}:∀{sk:Sk} {is:aa Nat} {g gf:Nat->aj} {bo:ah (Nat × Nat)},gq w g sk is=some gf->gf c = .slice (some ⟨b,o,none⟩) len cap->i<len ->
  wk w g bo (sk++[(c,n)]) (is++[i])=some (b,o+i*n)
 | [],[],g,gf,bo,h,hx,hi=>by
  simp only [gq,aK] at h;subst h;simp [wk,hx,hi]
 | [],_::_,_,_,_,h,_,_=>by simp [gq] at h
 | (c0,n0)::sk,[],_,_,_,h,_,_=>by simp [gq,wk] at h
 | (c0,n0)::sk,i0::is,g,gf,bo,h,hx,hi=>by
  simp only [gq,cO,wk] at h;obtain ⟨BO,h,rfl⟩:=h;split at h;case h_2=>simp at h
  case h_1 b0 o0 ajw cap0 hx0=>
  split at h;case isFalse=>simp at h
  case isTrue hi0=>
  simp only [nC,wk,hx0,if_pos hi0];cases sk with
  | nil=>
   cases is with
   | cons=>simp [wk] at h
   | nil=>
    simp only [wk,aK] at h;subst h;exact Sa (sk:=[]) (is:=[]) (gf:=fun k=>cellD w b0 (o0+i0*n0+k)) rfl hx hi
  | cons s sk=>
   refine Sa (sk:=s::sk) (gf:=fun k=>cellD w BO.1 (BO.2+k)) ?_ hx hi;simp only [gq];rw [show wk w (fun k=>cellD w b0 (o0+i0*n0+k)) none (s::sk) is=some BO from ?_]
   ·rfl
   ·rw [<-h];cases is with
    | nil=>simp [wk]
    | cons i1 is=>obtain ⟨c1,n1⟩:=s;simp [wk]
theorem Sb {κ:aP} {w:aA} {S:aa Nat} {c n i:Nat}:∀{sk:Sk} {is:aa Nat} {g gf:Nat->aj},gq w g sk is=some gf->PO κ w S g sk is->(∀a len cap,gf c = .slice (some a) len cap->bu κ w S a.block) ->
  PO κ w S g (sk++[(c,n)]) (is++[i])
 | [],[],g,gf,h,_,hx=>by
  simp only [gq,aK] at h;subst h;simp only [dN,PO];split
  ·rename_i a len cap ha;exact ⟨hx a len cap ha,trivial⟩
  ·trivial
 | [],_::_,_,_,h,_,_=>by simp [gq] at h
 | (c0,n0)::sk,[],_,_,h,_,_=>by simp [gq,wk] at h
 | (c0,n0)::sk,i0::is,g,gf,h,hp,hx=>by
  simp only [gq,cO,wk] at h;obtain ⟨BO,h,rfl⟩:=h;split at h;case h_2=>simp at h
  case h_1 b0 o0 ajw cap0 hx0=>
  split at h;case isFalse=>simp at h
  case isTrue hi0=>
  simp only [PO,hx0] at hp;simp only [nC,PO,hx0];refine ⟨hp.1,?_⟩;cases sk with
  | nil=>
   cases is with
   | cons=>simp [wk] at h
   | nil=>
    simp only [wk,aK] at h;subst h;exact Sb (sk:=[]) (is:=[]) (gf:=fun k=>cellD w b0 (o0+i0*n0+k)) rfl (by simp [PO]) hx
  | cons s sk=>
   refine Sb (sk:=s::sk) (gf:=fun k=>cellD w BO.1 (BO.2+k)) ?_ hp.2 hx;simp only [gq];rw [show wk w (fun k=>cellD w b0 (o0+i0*n0+k)) none (s::sk) is=some BO from ?_]
   ·rfl
   ·rw [<-h];cases is with
    | nil=>simp [wk]
    | cons i1 is=>obtain ⟨c1,n1⟩:=s;simp [wk]
theorem Tj {κ:aP} {w:aA} {m:Md} {e:aa CT} {p:Pl} {x:aj} {xs:aa (aa A)} {S:aa Nat} (Rz:p.2≠[]) (hm:(∃S0,m = .ro S0/\∀r,r∈S0->r∈S)\/(∃k,m = .own k)/\p.1∈S) (h:RC κ w (.sl m e) p x (.s xs)) :
  ∃ao cap,x = .slice ao xs.length cap/\(xs≠[]->∃b o,ao=some ⟨b,o,none⟩/\bu κ w S b):=by
 rcases hm with ⟨S0,rfl,hS⟩|⟨⟨k,rfl⟩,hp⟩
 ·simp only [RC] at h;obtain ⟨ao,cap,hx,dD,hc⟩:=h;refine ⟨ao,cap,hx,fun bv => ?_⟩;rcases hc with h0|⟨b,o,rfl,hb,_,_⟩
  ·exact absurd h0 bv
  ·exact ⟨b,o,rfl,FZ hb hS⟩
 ·simp only [RC] at h;obtain ⟨ao,cap,hx,dD,hc⟩:=h;refine ⟨ao,cap,hx,fun bv => ?_⟩;rcases hc with ⟨_,h0⟩|⟨b,o,rfl,hs,hb,_,_⟩
  ·have:xs.length=0:=by omega
   exact absurd (nz.1 this) bv
  ·exact ⟨b,o,rfl,al5 hs hb hp Rz⟩
theorem R.pla_val (h:R ac κ0 w0 κ w N tg sv tm) {t:Nat} {m:Md} {e:aa CT} (ht:tg t = .val false [.sl m e]) {S:aa Nat} (hm:(∃S0,m = .ro S0/\∀r,r∈S0->r∈S)\/(∃k,m = .own k)/\t∈S)
  {xs:aa (aa A)} (hs:sv t = .v [.s xs] []) {i:Nat} (hi:i<xs.length) (n:Nat) :
  ∃b o cap,tm t = .slice (some ⟨b,o,none⟩) xs.length cap/\IV κ w tg tm t [(0,n)] [i] S b (o+i*n):=by
 have h1:=h.tr t;rw [ht] at h1;simp only [TR] at h1;obtain ⟨as,vs,g1,g2,g3,g4,g5⟩:=h1;rw [hs] at g1;cases g1;have mr:vs=[tm t]:=by
  cases hx:tm t<;>rw [hx] at g2<;>simp [cellsOf] at g2<;>exact g2.symm
 subst mr;simp only [aB] at g5;have bv:xs≠[]:=by rintro rfl;simp at hi
 obtain ⟨ao,cap,hx,hb⟩:=Tj (S:=S) (by simp [Pl.at]) (hm.imp id fun h=>⟨h.1,h.2⟩) g5.1;obtain ⟨b,o,rfl,a_⟩:=hb bv;simp at hx;have lF:rg w (tg t) (tm t) 0 = .slice (some ⟨b,o,none⟩) xs.length cap:=by rw [ht,hx];rfl
 refine ⟨b,o,cap,hx,⟨?_,?_,fun b' di=>by rw [ht] at di;simp [rb] at di⟩⟩
 ·have:=Sa (w:=w) (c:=0) (n:=n) (i:=i) (sk:=[]) (is:=[]) (bo:=(rb (tg t) (tm t)).map fun b=>(b,0)) (g:=rg w (tg t) (tm t)) rfl lF hi;simpa [iH] using this
 ·have:=Sb (κ:=κ) (w:=w) (S:=S) (c:=0) (n:=n) (i:=i) (sk:=[]) (is:=[]) (g:=rg w (tg t) (tm t)) rfl (by simp [PO]) (fun a len cap' ha=>by rw [lF] at ha;cases ha;exact a_);simpa using this
theorem R.pla_alias (h:R ac κ0 w0 κ w N tg sv tm) {t r:Nat} {S0:aa Nat} {e:aa CT} {sk:Sk} {off:Nat} {S:aa Nat} (ht:tg t = .alias false [.sl (.ro S0) e] r sk off S) (hS:∀r,r∈S0->r∈S)
  {xs:aa (aa A)} {is:aa Nat} (hs:sv t = .v [.s xs] is) {i:Nat} (hi:i<xs.length) (n:Nat) :
  ∃b o cap,tm t = .slice (some ⟨b,o,none⟩) xs.length cap/\IV κ w tg tm r (sk++[(off,n)]) (is++[i]) S b (o+i*n):=by
 have h1:=h.tr t;rw [ht] at h1;simp only [TR] at h1;obtain ⟨as,is',vs,g,ra,row,g1,g2,g3,gl,g4,g5,g6,g7,g8,g9,g10,g11,g12⟩:=h1;rw [hs] at g1;cases g1;have mr:vs=[tm t]:=by
  cases hx:tm t<;>rw [hx] at g2<;>simp [cellsOf] at g2<;>exact g2.symm
 subst mr;simp only [aB] at g4;have bv:xs≠[]:=by rintro rfl;simp at hi
 obtain ⟨ao,cap,hx,hb⟩:=Tj (S:=S) (by simp [Pl.at]) (.inl ⟨S0,rfl,hS⟩) g4.1;obtain ⟨b,o,rfl,a_⟩:=hb bv;simp at hx;have hg0:g off = .slice (some ⟨b,o,none⟩) xs.length cap:=by
  have:=(g9 0 (by simp)).1;simp [hx] at this;simpa using this
 refine ⟨b,o,cap,hx,⟨?_,?_,g7⟩⟩
 ·exact Sa g5 hg0 hi
 ·exact Sb g5 g6 (fun a len cap' ha=>by rw [hg0] at ha;cases ha;exact a_)
end
end Go.Fw
namespace Go.Fw
theorem nK {α:Type} {l x:aa α} {off:Nat} (h:off+x.length<=l.length) (k:Nat) :
  (splice l off x)[k]?=if k<off then l[k]? else if k<off+x.length then x[k-off]? else l[k]?:=by
 unfold splice;split
 ·rw [rH (by simp;omega),qR (by omega)]
 ·rw [vE (by simp;omega)];have acX:(List.take off l).length=off:=by simp;omega
  rw [acX];split
  ·rw [rH (by omega)]
  ·rw [vE (by omega),oF];congr 1;omega
def Xo (g g':Nat->aj):Prop:=∀k a l c,g k = .slice a l c->g' k = .slice a l c
theorem axI {κ:aP} {w w':aA} {S:aa Nat} (dM:w'.heap.size=w.heap.size) (hc:∀b,Xo (cellD w b) (cellD w' b)) :
  ∀{sk:Sk} {is:aa Nat} {g g':Nat->aj} {bo:ah (Nat × Nat)} {x:Nat × Nat},Xo g g'->wk w g bo sk is=some x->wk w' g' bo sk is=some x/\(PO κ w S g sk is->PO κ w' S g' sk is)
 | [],[],_,_,_,_,_,h=>by simp only [wk,PO] at h ⊢;exact ⟨h,fun _=>trivial⟩
 | [],_::_,_,_,_,_,_,h=>by simp [wk] at h
 | _::_,[],_,_,_,_,_,h=>by simp [wk] at h
 | (c,n)::sk,i::is,g,g',bo,x,hg,h=>by
  simp only [wk] at h;split at h;case h_2=>simp at h
  case h_1 b o len cap hx=>
  split at h;case isFalse=>simp at h
  case isTrue hi=>
  have zh:=hg c _ _ _ hx;have WV:=axI (κ:=κ) (S:=S) dM hc (g':=fun k=>cellD w' b (o+i*n+k)) (fun k a l c' hk=>hc b _ a l c' hk) h;simp only [wk,PO,hx,zh,if_pos hi];refine ⟨WV.1,fun hp=>⟨⟨by rw [dM];exact hp.1.1,hp.1.2⟩,WV.2 hp.2⟩⟩
theorem avW {w:aA} {b o:Nat} {vs:aa aj} (hd:∀k,k<vs.length->sc (cellD w b (o+k))=true) (b':Nat):Xo (cellD w b') (cellD (bO w b o vs) b'):=by
 intro k a l c hk;unfold cellD at hk ⊢;rw [iJ];split
 ·rename_i h;obtain ⟨rfl,h1,h2⟩:=h;have:=hd (k-o) (by omega);rw [show o+(k-o)=k from by omega] at this;unfold cellD at this;rw [hk] at this;simp [sc] at this
 ·exact hk
section
variable {ac:Nat->Nat->aj} {κ0 κ:aP} {w0 w w':aA} {N:Nat} {tg:Nat->TT} {sv:Nat->AV} {tm:Nat->aj}
def qL (cs:aa CT):Bool:=cs.all fun c=>match c with
 | .d=>true
 | _=>false
theorem Vt {cs:aa CT} (h:qL cs=true) {k:Nat} {c:CT} (hc:cs[k]?=some c):c = .d:=by
 have:=bW.1 h _ (iA hc);cases c with
 | d=>rfl
 | sl m e=>simp at this
def TT.killD (r:Nat) (M:aa Nat):TT->TT
 | .ptr r' sk off S=>if r'=r then .ptr r' sk off S else (TT.ptr r' sk off S).kill [r] M
 | x=>x.kill [r] M
theorem ar_ {sk:Sk} {is p:aa Nat} {j:Nat} (hs:sk≠[]) (hi:is≠[]):(bX p j sk is).1≠[]:=by
 have:=Kc sk is p j hs hi;intro h;rw [h] at this;simp at this
theorem Bb {M:aa Nat} {own:Bool}:∀{sk:Sk} {cs e:aa CT},CT.mens M cs=false->iF own cs sk=some e->CT.mens M e=false
 | [],cs,e,h,ht=>by simp only [iF,aK] at ht;subst ht;exact h
 | (c,n)::sk,cs,e,h,ht=>by
  simp only [iF] at ht;split at ht
  ·rename_i k e0 hc;split at ht
   ·have:=vG h hc;simp only [CT.men] at this;exact Bb this ht
   ·cases ht
  ·rename_i S e0 hc;split at ht
   ·have:=vG h hc;simp only [CT.men,nA] at this;exact Bb this.2 ht
   ·cases ht
  ·cases ht
theorem avX (h:R ac κ0 w0 κ w N tg sv tm) {r:Nat} (sM:r<N) {cs e:aa CT} {sk:Sk} {is S:aa Nat} {B O off:Nat} (ht:(tg r).cts=some cs) {ra row:aa A} (hs:sv r = .v ra [])
  (hp:IV κ w tg tm r sk is S B O) (he:iF true cs sk=some e) (hl:b_ ra sk is=some row) {ys:aa aj} (hn:off+ys.length<=e.length) (hd:qL ((e.drop off).take ys.length)=true) (hys:ys.all sc=true)
  (hm:CT.mens [r] cs=false) {M:aa Nat} (hM:M=if sk=[] then [] else [r]) :
  Wrb w B (O+off) (O+off+ys.length) /\
  R ac κ0 w0 κ (bO w B (O+off) ys) N (upd (fun t=>(tg t).killD r M) r (tg r)) (upd sv r (.v (lJ ra sk is (splice row off (ys.map .v))) [])) tm:=by
 have fO:=kM ys w B (O+off);have dM:(bO w B (O+off) ys).heap.size=w.heap.size:=fO.1;have fF:=h.root ht hs
 -- where it is
 obtain ⟨P,jk,hP,hW,o,j,hO,cZ,hPj⟩:∃P,κ B=some (r,P)/\(sk=[]↔P=[])/\Wrb w B O (O+e.length)/\∃o j,O=o+j/\aB κ w e (r,P) j (fun k=>cellD w B (o+k)) row /\
   (sk≠[]->P=(bX [] 0 sk is).1/\j=(bX [] 0 sk is).2)/\(sk=[]->o+j=0/\e=cs/\row=ra/\is=[]/\j=0):=by
  cases sk with
  | nil=>
   cases is with
   | cons=>simp [b_] at hl
   | nil=>
    simp only [b_,aK,iF] at hl he;subst hl;subst he;have ha:=hp.addr;simp only [iH,wk,cO,bU] at ha;obtain ⟨b,hb,rfl,rfl⟩:=ha;have hκ:=hp.root b hb;cases hT:tg r with
    | box cs'=>
     have h1:=h.tr r;rw [hT] at h1 ht;simp only [TT.cts,aK] at ht;subst ht;simp only [TR] at h1;obtain ⟨as,b',g1,g2,g3,g4,g5,g6,g7⟩:=h1;rw [hs] at g1;cases g1;simp [rb,hT,g2] at hb;subst hb;exact ⟨[],g4,by simp,by simpa using g5,0,0,rfl,by simpa using g7,by simp,fun _=>by simp⟩
    | _=>rw [hT] at hb;simp [rb] at hb
  | cons s sk=>
   obtain ⟨b,o,g1,g2,g3,g4⟩:=DL (bo:=(rb (tg r) (tm r)).map fun b=>(b,0)) (by simp) fF he hl;have ha:=hp.addr;simp only [iH] at ha;simp only [cB] at g1;rw [ha] at g1;simp only [aK,bU] at g1;obtain ⟨rfl,rfl⟩:=g1;have pK:is≠[]:=by rintro rfl;cases s;simp [b_] at hl
   exact ⟨_,g2,by simp [ar_ (sk:=s::sk) (is:=is) (p:=[]) (j:=0) (by simp) pK],g3,o,_,rfl,g4,fun _=>⟨rfl,rfl⟩,by simp⟩
 have hWn:Wrb w B (O+off) (O+off+ys.length):=hW.sub (by omega) (by omega);refine ⟨hWn,?_⟩;have aCM:∀k,k<ys.length->sc (cellD w B (O+off+k))=true:=by
  intro k hk;have hc:e[off+k]?=some .d:=by
   have h1:((e.drop off).take ys.length)[k]?=e[off+k]?:=by rw [qR hk,oF]
   have h2:off+k<e.length:=by omega
   rw [<-h1,aZ (by simp;omega)];congr 1;exact Vt hd (aZ _)
  have bJ:=dH cZ;have:=gZ cZ hc (aZ (by omega));cases ha:row[off+k]'(by omega) with
  | v y=>rw [ha] at this;simp only [RC] at this;rw [hO,show o+j+off+k=o+(j+(off+k)) from by omega,this.1];exact this.2
  | s xs=>rw [ha] at this;simp [RC] at this
 have hsl:∀b,Xo (cellD w b) (cellD (bO w B (O+off) ys) b):=fun b=>avW aCM b
 -- the new row
 have vC:aB κ (bO w B (O+off) ys) e (r,P) j (fun k=>cellD (bO w B (O+off) ys) B (o+k)) (splice row off (ys.map .v)):=by
  have bJ:=dH cZ;refine lY (by rw [lK (by simp;omega)];exact bJ) fun k c a hc ha => ?_
  rw [nK (by simp;omega)] at ha;have hk:=(bn hc).1;have kg:(∀i,i<ys.length->k≠off+i)->row[k]?=some a->RC κ (bO w B (O+off) ys) c (Pl.at (r,P) (j+k)) (cellD (bO w B (O+off) ys) B (o+(j+k))) a:=by
   intro bv hak;have h0:=gZ cZ hc hak;have lD:cellD (bO w B (O+off) ys) B (o+(j+k))=cellD w B (o+(j+k)):=by
    unfold cellD;rw [iJ,if_neg];rintro ⟨_,h1,h2⟩;exact bv (k-off) (by omega) (by omega)
   rw [lD];have hcm:c.men [r]=false:=by
    have:=Bb hm he;exact vG this hc
   refine wu (zt (fun S hS b hb => ?_) hcm) (fun b q hb=>⟨rfl,dJ ?_⟩) h0
   ·have:b≠B:=by rintro rfl;exact hS r (by simp) (hb.2 _ _ jk).1
    exact ⟨⟨by rw [dM];exact hb.1,hb.2⟩,dJ this⟩
   ·rintro rfl;rw [jk] at hb;simp [Pl.at] at hb
  by_cases h1:k<off
  ·rw [if_pos h1] at ha;exact kg (fun i _=>by omega) ha
  ·rw [if_neg h1] at ha;by_cases h2:k<off+(ys.map A.v).length
   ·rw [if_pos h2] at ha;simp at h2;simp only [kz] at ha;have hky:k-off<ys.length:=by omega
    rw [aZ hky] at ha;simp only [dx,aK] at ha;subst ha;have iZ:c = .d:=by
     refine Vt hd (k:=k-off) ?_;rw [qR hky,oF,show off+(k-off)=k from by omega];exact hc
    subst iZ;simp only [RC];have:=Ar hWn (k-off) hky;rw [show O+off+(k-off)=o+(j+k) from by omega] at this;rw [this];have aGi:=bW.1 hys _ (u6 hky);exact ⟨by simp [hky],aGi⟩
   ·rw [if_neg h2] at ha;simp at h2;exact kg (fun i hi=>by omega) ha
 -- others
 have bz:∀S,(∀m,m∈M->m∉S)->∀b,bu κ w S b->bu κ (bO w B (O+off) ys) S b/\Same w (bO w B (O+off) ys) b:=by
  intro S hS b hb;have:b≠B:=by
   rintro rfl;have h2:=hb.2 _ _ jk;by_cases ow:sk=[]
   ·exact h2.2 (hP.1 ow)
   ·rw [hM,if_neg ow] at hS;exact hS r (by simp) h2.1
  exact ⟨⟨by rw [dM];exact hb.1,hb.2⟩,dJ this⟩
 refine uy (mods:=[r]) (M:=M) h (by have:=h.nle;simp;omega) bz (fun b r' q jF hb=>⟨rfl,dJ ?_⟩) (fun t m_ => ?_) (fun t m_ => ?_) (fun t _=>rfl) (fun t m_ => ?_) (fun t m_ => ?_) (fun b hb => ?_) ?_
 ·rintro rfl;simp at jF;rw [jk] at hb;cases hb;exact jF rfl
 ·simp at m_;simp only [upd,m_,if_false];cases hT:tg t with
  | ptr r' sk' off' S'=>
   simp only [TT.killD];by_cases Vj:r'=r
   ·subst Vj;right;simp only [if_true];refine ⟨fun x=>by simp,?_⟩;have h1:=h.tr t;rw [hT] at h1;simp only [TR,bI,upd_ne _ _ _ m_] at h1 ⊢;obtain ⟨is',B',O',g1,g2,g3,g4,g5⟩:=h1;have aGj:Xo (rg w (tg r') (tm r')) (rg (bO w B (O+off) ys) (tg r') (tm r')):=by
     intro k a l c hk;unfold rg at hk ⊢;split at hk
     ·exact hk
     ·exact hsl _ _ _ _ _ hk
     ·exact hk
    have:=axI (κ:=κ) (S:=S') dM hsl aGj (by simpa [iH] using g2);exact ⟨is',B',O',g1,by simpa [iH] using this.1,this.2 g3,g4,g5⟩
   ·simp only [Vj,if_false];exact .inl trivial
  | _=>left;simp [TT.killD]
 ·simp at m_;simp [upd,m_]
 ·simp at m_;subst m_;rw [bI];have h1:=h.tr t;cases hT:tg t with
  | val ag cs'=>
   rw [hT] at h1 ht;simp only [TT.cts,aK] at ht;subst ht;simp only [TR,bI] at h1 ⊢;obtain ⟨as,vs,g1,g2,g3,g4,g5⟩:=h1;rw [hs] at g1;cases g1;have ow:sk≠[]:=by
    rintro rfl;have ha:=hp.addr;rw [hT] at ha;cases is<;>simp [iH,rb,wk] at ha
   refine ⟨_,vs,rfl,g2,g3,g4,?_⟩;have lF:rg w (tg t) (tm t)=fun k=>vs.getD k undef:=by rw [hT];funext k;simp [rg,g2]
   have ha:=hp.addr;rw [lF] at ha fF;simp only [iH] at ha;obtain ⟨rfl,rfl⟩:=hPj.1 ow;exact IQ (bo:=(rb (tg t) (tm t)).map fun b=>(b,0)) ow fF he hl (by simpa using ha) (fw (fun S hS b hb=>bz S (by rw [hM,if_neg ow];exact hS) b hb) hm)
    (fun b q hb oq _=>⟨rfl,dJ oq⟩) (fun hb=>by rw [dM];exact hb) rfl
    (fun o' y nV hy=>⟨by rw [iJ,if_neg (by rintro ⟨_,h1,h2⟩;exact nV ⟨by omega,by omega⟩)];exact hy,fO.2.2.2.2.2 _ _⟩) (nH hW) (fun o' nV=>by
     have h9:o'=o:=by omega
     subst h9;exact vC)
  | box cs'=>
   rw [hT] at h1 ht;simp only [TT.cts,aK] at ht;subst ht;simp only [TR,bI] at h1 ⊢;obtain ⟨as,b,g1,g2,g3,g4,g5,g6,g7⟩:=h1;rw [hs] at g1;cases g1;by_cases ow:sk=[]
   ·obtain ⟨h0,rfl,rfl,rfl,rfl⟩:=hPj.2 ow;have oq:b=B:=by
     have ha:=hp.addr;rw [hT,g2,ow] at ha;simp [iH,rb,wk] at ha;exact ha.1
    subst oq;subst ow;have ho:o=0:=by omega
    subst ho;have hP0:P=[]:=hP.1 rfl;subst hP0;refine ⟨_,b,rfl,g2,by rw [dM];exact g3,g4,nH g5,fun k j c e' hk => ?_,by simpa [lJ] using vC⟩;have:=g6 k j c e' hk;rw [<-this];unfold cellD;rw [iJ,if_neg];rintro ⟨_,h1,h2⟩;have hky:k-off<ys.length:=by omega
    have:(CT.sl (.own (some (j,c))) e') = .d:=by
     refine Vt hd (k:=k-off) ?_;rw [qR hky,oF,show off+(k-off)=k from by omega];exact hk
    cases this
   ·obtain ⟨rfl,rfl⟩:=hPj.1 ow;have oq:b≠B:=by
     rintro rfl;rw [g4] at jk;simp only [aK,bU,true_and] at jk;exact ow (hP.2 jk.symm)
    have gy:=dJ (w:=w) (o:=O+off) (vs:=ys) oq;have lF:rg w (tg t) (tm t)=cellD w b:=by rw [hT];funext k;simp [rg,g2]
    have ha:=hp.addr;rw [lF] at ha fF;simp only [iH] at ha;have nW:=IQ (κ':=κ) (w':=bO w B (O+off) ys) (bo:=(rb (tg t) (tm t)).map fun b=>(b,0)) ow fF he hl (by simpa using ha) (fw (fun S hS b hb=>bz S (by rw [hM,if_neg ow];exact hS) b hb) hm)
     (fun b q hb oq _=>⟨rfl,dJ oq⟩) (fun hb=>by rw [dM];exact hb) rfl
     (fun o' y nV hy=>⟨by rw [iJ,if_neg (by rintro ⟨_,h1,h2⟩;exact nV ⟨by omega,by omega⟩)];exact hy,fO.2.2.2.2.2 _ _⟩) (nH hW) (fun o' nV=>by
      have:o'=o:=by omega
      subst this;exact vC)
    have hcd:∀i,i<cs'.length->cellD (bO w B (O+off) ys) b i=cellD w b i:=fun i hi=>gy.cD g5.rdb (lN _) hi
    exact ⟨_,b,rfl,g2,by rw [dM];exact g3,g4,nH g5,fun k j c e' hk=>by rw [hcd k (bn hk).1];exact g6 k j c e' hk,
     mD (fun i _ hi=>hcd i (by simpa using hi)) nW⟩
  | dead=>rw [hT] at ht;simp [TT.cts] at ht
  | alias=>rw [hT] at ht;simp [TT.cts] at ht
  | ptr=>rw [hT] at ht;simp [TT.cts] at ht
  | tup=>rw [hT] at ht;simp [TT.cts] at ht
 ·have bv:t≠r:=by omega
  simp only [upd,bv,if_false,h.out t m_];simp [TT.killD,TT.kill]
 ·exact h.col b (by rw [<-dM];exact hb)
 ·exact ⟨by rw [dM];exact h.fr.size,fun b hb h0=>⟨(h.fr.kept b hb h0).1,by
   have oq:b≠B:=by rintro rfl;rw [(h.fr.kept _ hb h0).1] at jk;cases jk
   rw [fO.2.2.2.2.1 b oq];exact (h.fr.kept b hb h0).2⟩,by rw [fO.2.1];exact h.fr.os,by rw [fO.2.2.1];exact h.fr.out,by rw [fO.2.2.2.1];exact h.fr.tape⟩
end
end Go.Fw
namespace Go.Fw
def uA (r off n:Nat) (srcs:aa Nat) (p:Pl):ah Pl:=
 if p.1=r then match p.2 with
  | k::q=>if off<=k/\k<off+n then none else some (r,k::q)
  | []=>some (r,[])
 else if p.1∈srcs then match p.2 with
  | k::q=>some (r,(off+k)::q)
  | []=>none
 else some p
theorem aDU {r off n:Nat} {srcs:aa Nat}:∀r' q p,uA r off n srcs (r',q)=some p->r'∉srcs->p=(r',q):=by
 intro r' q p h hr;unfold uA at h;by_cases h1:r'=r
 ·subst h1;simp only [if_true] at h;cases q with
  | nil=>simp at h;exact h.symm
  | cons k q=>
   simp only at h;split at h
   ·cases h
   ·cases h;rfl
 ·simp only [h1,hr,if_false] at h;cases h;rfl
def TT.killS (r:Nat) (mods M:aa Nat):TT->TT
 | .ptr r' [] off S=>if r'=r then .ptr r' [] off S else (TT.ptr r' [] off S).kill mods M
 | x=>x.kill mods M
theorem asa {κ κ':aP} {w w':aA} {M:aa Nat} {r off n:Nat} {cs:aa CT} {get:Nat->aj} {ra:aa A} (bz:∀S,(∀m,m∈M->m∉S)->∀b,bu κ w S b->bu κ' w' S b/\Same w w' b)
  (hm:CT.mens M cs=false) (ho:∀k b q,¬(off<=k/\k<off+n)->κ b=some (r,k::q)->κ' b=κ b/\Same w w' b) (h:aB κ w cs (r,[]) 0 get ra):aB κ' w' (iT off n cs) (r,[]) 0 get ra:=by
 refine lY (by rw [jo];exact dH h) fun k c a hc ha => ?_
 rw [wy] at hc;cases sJ:cs[k]? with
 | none=>simp [sJ] at hc
 | some c0=>
  simp only [sJ,dx,aK] at hc;have h0:=gZ h sJ ha;split at hc
  ·subst hc;cases c0 with
   | d=>simp only [ww];cases a with
    | v y=>simp only [RC] at h0 ⊢;exact h0
    | s xs=>simp [RC] at h0
   | sl m e=>simp only [ww,RC]
  ·rename_i hk;subst hc;refine wu (zt (fun S hS=>bz S hS) (vG hm sJ)) (fun b q hb=>ho k b q hk ?_) h0;simpa [Pl.at] using hb
theorem agZ {off:Nat} {cs x:aa CT} (h:off+x.length<=cs.length):splice (iT off x.length cs) off x=splice cs off x:=by
 apply Xf;intro k;rw [nK (by rw [jo];exact h),nK h];split
 ·rw [wy];rename_i hk;cases cs[k]? with
  | none=>rfl
  | some c=>simp only [dx];rw [if_neg (by omega)]
 ·split
  ·rfl
  ·rw [wy];cases cs[k]? with
   | none=>rfl
   | some c=>simp only [dx];rw [if_neg (by omega)]
section
variable {ac:Nat->Nat->aj} {κ0 κ:aP} {w0 w w':aA} {N:Nat} {tg:Nat->TT} {sv:Nat->AV} {tm:Nat->aj}
theorem ag0 (h:R ac κ0 w0 κ w N tg sv tm) {r:Nat} (sM:r<N) {cr:aa CT} (ht:tg r = .box cr) {ra:aa A} (hs:sv r = .v ra []) {srcs:aa Nat} (qz:FB∉srcs) (pM:r∉srcs) {t:Nat} {cs:aa CT} {vs:aa aj}
  {as:aa A} (hp:Part κ w srcs t cs vs as) {off:Nat} (hn:off+cs.length<=cr.length) (hm:CT.mens srcs cr=false) (Cq:h_ cs=true) :
  ∃B,tm r = .pointer (some ⟨B,0,none⟩)/\Wrb w B off (off+vs.length) /\
  R ac κ0 w0 (aW κ (uA r off cs.length srcs) none) (bO w B off vs) N (upd (fun u=>if u∈srcs then .dead else (tg u).killS r (r::srcs) srcs) r (.box (splice cr off cs)))
   (upd sv r (.v (splice ra off as) [])) tm:=by
 have h1:=h.tr r;rw [ht] at h1;simp only [TR] at h1;obtain ⟨as',B,g1,g2,g3,g4,g5,g6,g7⟩:=h1;rw [hs] at g1;cases g1;have CL:=hp.len;refine ⟨B,g2,g5.sub (lN _) (by omega),?_⟩;have fO:=kM vs w B off;have dM:(bO w B off vs).heap.size=w.heap.size:=fO.1;have kw:∀b p,κ b=some p->aW κ (uA r off cs.length srcs) none b=uA r off cs.length srcs p:=fun b p hb=>rR (fun _ _ h=>by cases h) h.col hb
 have ake:∀S,(∀m,m∈srcs->m∉S)->∀b,bu κ w S b->bu (aW κ (uA r off cs.length srcs) none) w S b/\Same w w b:=
  fun S hS b hb=>nJ (Grows.refl w) aDU (fun _ _ h=>by cases h) hS b hb
 have bv:∀S b,bu κ w S b->b≠B:=by
  rintro S b hb rfl;exact (hb.2 _ _ g4).2 rfl
 have bz:∀S,(∀m,m∈srcs->m∉S)->∀b,bu κ w S b->bu (aW κ (uA r off cs.length srcs) none) (bO w B off vs) S b/\Same w (bO w B off vs) b:=
  fun S hS b hb=>⟨⟨by rw [dM];exact (ake S hS b hb).1.1,(ake S hS b hb).1.2⟩,dJ (bv S b hb)⟩
 have jk:aW κ (uA r off cs.length srcs) none B=some (r,[]):=by rw [kw B _ g4];simp [uA]
 -- the new row,in the elder world
 have agL:aB (aW κ (uA r off cs.length srcs) none) w (splice cr off cs) (r,[]) 0 (fun k=>(splice ((List.range cr.length).map (cellD w B)) off vs).getD k undef) (splice ra off as):=by
  rw [<-agZ hn];refine Xn ?_ (by simp [jo]) ?_ CL (by rw [jo];exact hn)
  ·refine mD (fun i _ hi => ?_) (asa (M:=srcs) ake hm (fun k b q hk hb=>⟨?_,Same.refl w b⟩) g7)
   ·rw [jo] at hi;simp at hi;simp [hi]
   ·rw [kw b _ hb,hb];simp only [uA,if_true];rw [if_neg hk]
  ·by_cases hts:t∈srcs
   ·have:=gH (f:=id) (P:=fun S=>∀m,m∈srcs->m∉S) (κ':=aW κ (uA r off cs.length srcs) none) (w':=w) (p':=(r,[])) (j':=off) (get':=fun k=>vs.getD (k-off) undef) ake
     (fw (fun S hS=>hS) hp.men) (fun i hi b q hb=>⟨?_,Same.refl w b⟩) (fun i hi=>by simp) hp.row
    ·rwa [iU] at this
    ·rw [kw b _ hb];have JV:t≠r:=by rintro rfl;exact pM hts
     simp [uA,JV,hts]
   ·exact jU (P:=fun S=>∀m,m∈srcs->m∉S) ake (hp.own.resolve_left hts) (fw (fun S hS=>hS) hp.men) (fun i hi=>by simp) hp.row
 have lD:∀k,k<cr.length->cellD (bO w B off vs) B k=(splice ((List.range cr.length).map (cellD w B)) off vs).getD k undef:=by
  intro k hk;rw [dA,nK (by simp;omega)];split
  ·unfold cellD;rw [iJ,if_neg (by omega)];simp [hk]
  ·split
   ·have:=Ar (w:=w) (b:=B) (o:=off) (vs:=vs) (g5.sub (lN _) (by omega)) (k-off) (by omega);rw [show off+(k-off)=k from by omega] at this;rw [this,dA]
   ·unfold cellD;rw [iJ,if_neg (by omega)];simp [hk]
 have axn:(splice cr off cs).length=cr.length:=lK hn;have aEn:aB (aW κ (uA r off cs.length srcs) none) (bO w B off vs) (splice cr off cs) (r,[]) 0 (cellD (bO w B off vs) B) (splice ra off as):=by
  refine Vr (iK (fun S b hb => ?_) _) (fun i hi b q hb=>⟨rfl,dJ ?_⟩) (fun i hi => ?_) agL
  ·have:b≠B:=by rintro rfl;exact (hb.2 _ _ jk).2 rfl
   exact ⟨⟨by rw [dM];exact hb.1,hb.2⟩,dJ this⟩
  ·rintro rfl;rw [jk] at hb;simp at hb
  ·rw [cB];exact lD i (by omega)
 refine uy (mods:=r::srcs) (M:=srcs) h (by have:=h.nle;simp only [aY,not_or];exact ⟨by omega,qz⟩) bz (fun b r' q jF hb => ?_) (fun u hu => ?_) (fun u hu => ?_) (fun u _=>rfl) (fun u hu => ?_) (fun u hu => ?_) (fun b hb => ?_) ?_
 ·simp at jF;refine ⟨?_,dJ ?_⟩
  ·rw [kw b _ hb,hb];simp [uA,jF]
  ·rintro rfl;rw [g4] at hb;cases hb;exact jF.1 rfl
 ·simp at hu;simp only [upd,hu.1,hu.2,if_false];cases hT:tg u with
  | ptr r' sk off' S'=>
   cases sk with
   | nil=>
    simp only [TT.killS];by_cases Vj:r'=r
    ·subst Vj;right;simp only [if_true];refine ⟨fun x=>by simp,?_⟩;have h2:=h.tr u;rw [hT] at h2;simp only [TR,upd_ne _ _ _ hu.1,ht,rb,g2,iH] at h2 ⊢;obtain ⟨is',B',O',k1,k2,k3,k4,k5⟩:=h2;cases is' with
     | nil=>
      simp only [dx,wk,aK,bU] at k2;obtain ⟨rfl,rfl⟩:=k2;exact ⟨[],B,0,k1,by simp [upd,wk,rb],by simp [PO],fun b hb=>by simp [upd,rb] at hb;subst hb;exact jk,k5⟩
     | cons=>simp [wk] at k2
    ·simp only [Vj,if_false];exact .inl trivial
   | cons s sk=>left;simp [TT.killS]
  | _=>left;simp [TT.killS]
 ·simp at hu;simp [upd,hu]
 ·by_cases yO:u=r
  ·subst yO;rw [bI];simp only [TR,bI];refine ⟨_,B,rfl,g2,by rw [dM];exact g3,jk,by rw [axn];exact nH g5,fun k j c e hk => ?_,aEn⟩;rw [nK hn] at hk;have mR:k<cr.length:=by
    split at hk
    ·omega
    ·split at hk
     ·omega
     ·exact (bn hk).1
   rw [lD k mR,dA,nK (by simp;omega)];split at hk
   ·rename_i h9;rw [if_pos h9];have:=g6 k j c e hk;simpa [mR] using this
   ·split at hk
    ·exact gK (ac:=ac) (get:=fun _=>ac j c) Cq (k-off) j c e hk▸absurd hk (by
      intro hk
      have:=bW.1 Cq _ (iA hk)
      simp at this)
    ·rename_i h8 h9;rw [if_neg h8,if_neg (by omega)];have:=g6 k j c e hk;simpa [mR] using this
  ·simp [yO] at hu;simp [upd,yO,hu,TR]
 ·have axo:u≠r:=by omega
  simp only [upd,axo,if_false,h.out u hu];split
  ·rfl
  ·simp [TT.killS,TT.kill]
 ·rw [dM] at hb;simp [aW,h.col b hb]
 ·refine ⟨by rw [dM];exact h.fr.size,fun b hb h0 => ?_,by rw [fO.2.1];exact h.fr.os,by rw [fO.2.2.1];exact h.fr.out,by rw [fO.2.2.2.1];exact h.fr.tape⟩;have hk:=h.fr.kept b hb h0;have oq:b≠B:=by rintro rfl;rw [hk.1] at g4;cases g4
  exact ⟨by simp [aW,hk.1],by rw [fO.2.2.2.2.1 b oq];exact hk.2⟩
end
end Go.Fw
namespace Go.Fw
def Bc (tx ty:ah Nat) (d m:Nat) (inp:Bool) (p:Pl):ah Pl:=
 if some p.1=tx then match p.2 with
  | [0]=>if inp then some (d,[0]) else none
  | 0::k::q=>some (d,0::k::q)
  | _=>none
 else if some p.1=ty then match p.2 with
  | 0::k::q=>some (d,0::(m+k)::q)
  | _=>none
 else if p.1=d then none else some p
theorem aDV {tx ty:ah Nat} {d m:Nat} {inp:Bool} {srcs:aa Nat} (hx:∀x,tx=some x->x∈srcs) (hy:∀y,ty=some y->y∈srcs) :
  ∀r q p,Bc tx ty d m inp (r,q)=some p->r∉srcs->p=(r,q):=by
 intro r q p h hr;unfold Bc at h;have h1:¬some r=tx:=fun he=>hr (hx r he.symm)
 have h2:¬some r=ty:=fun he=>hr (hy r he.symm)
 simp only [h1,h2,if_false] at h;split at h
 ·cases h
 ·cases h;rfl
section
variable {ac:Nat->Nat->aj} {κ0 κ:aP} {w0 w w':aA} {N:Nat} {tg:Nat->TT} {sv:Nat->AV} {tm:Nat->aj}
theorem Xp (w:aA) (n:Nat) (ao:ah Addr) (h:n=0\/ao≠none):(behind w n ao).length=n:=by
 cases ao with
 | none=>rcases h with rfl|h
         ·rfl
         ·exact absurd rfl h
 | some a=>simp [behind]
theorem avY {P:aR} {t t2 eT e2T:TypeId} {i:TypeInfo} {z:aj} {ty:TypeId} (hE:Om P t eT i z) (ht2:P.underlying t2=some (.slice e2T))
  (h:R ac κ0 w0 κ w N tg sv tm) {d:Nat} (hd:d<N) {srcs:aa Nat} (qz:FB∉srcs) {e:aa CT} (JW:e.length=i.size) {xs ys:aa (aa A)} {ao yo:ah Addr} {cap ycap:Nat} {tx:ah Nat} {yt:Nat}
  (hx:(tx=none/\xs=[]/\ao=none/\cap=0)\/∃x pin,tx=some x/\x∈srcs/\RC κ w (.sl (.own pin) e) (x,[0]) (.slice ao xs.length cap) (.s xs))
  (hy:ys=[]\/∃b o,yo=some ⟨b,o,none⟩/\Rdb w b o (o+ys.length*e.length)/\dF κ w e (yt,[0]) 0 (fun j=>cellD w b (o+j)) ys)
  (hyo:yt∈srcs\/CT.nowns e=true) (hxy:tx≠some yt) (hm:CT.mens srcs e=false) (MK:CT.lives e=true) (acV:xs.length+ys.length<=4294967296) :
  ∃κ' w' v,(Builtin.append_ #[t,t2] ty #[.slice ao xs.length cap,.slice yo ys.length ycap]).run P w = .ok v w' /\
   R ac κ0 w0 κ' w' N (upd (fun u=>if u∈srcs then .dead else (tg u).kill (d::srcs) srcs) d (.val false [.sl (.own none) e])) (upd sv d (.v [.s (xs++ys)] [])) (upd tm d v):=by
 have qy:FB∉d::srcs:=by have:=h.nle;simp only [aY,not_or];exact ⟨by omega,qz⟩
 -- what is appended to
 have bJ:xs.length<=cap:=by
  rcases hx with ⟨_,rfl,_,rfl⟩|⟨x,pin,_,_,um⟩
  ·simp
  ·simp only [RC] at um;obtain ⟨_,_,hh,dD,_⟩:=um;cases hh;exact dD
 have hs:(ao=none/\cap=0)\/∃b o,ao=some ⟨b,o,none⟩/\Wrb w b o (o+cap*i.size):=by
  rcases hx with ⟨_,_,h1,h2⟩|⟨x,pin,_,_,um⟩
  ·exact .inl ⟨h1,h2⟩
  ·simp only [RC] at um;obtain ⟨_,_,hh,dD,hc⟩:=um;cases hh;rcases hc with hc|⟨b,o,rfl,_,_,hw,_⟩
   ·exact .inl hc
   ·exact .inr ⟨b,o,rfl,by rw [JW] at hw;exact hw⟩
 have hyr:ys.length=0\/∃b o,yo=some ⟨b,o,none⟩/\Rdb w b o (o+ys.length*i.size):=by
  rcases hy with rfl|⟨b,o,h1,h2,_⟩
  ·exact .inl rfl
  ·exact .inr ⟨b,o,h1,by rw [<-JW];exact h2⟩
 -- the cells that are appended
 have N7:(behind w (ys.length*i.size) yo).length=ys.length*i.size:=by
  refine Xp w _ yo ?_;rcases hy with rfl|⟨b,o,rfl,_,_⟩
  ·exact .inl (by simp)
  ·exact .inr (by simp)
 have hbg:∀b o,yo=some ⟨b,o,none⟩->∀k,k<ys.length*i.size->(behind w (ys.length*i.size) yo).getD k undef=cellD w b (o+k):=by
  rintro b o rfl k hk;simp only [behind];exact tq hk
 have JX:(behind w (ys.length*i.size) yo).all rP=true:=by
  rw [bW];intro v hv;obtain ⟨k,hk,rfl⟩:=FW.1 hv;rcases hy with rfl|⟨b,o,rfl,h2,h3⟩
  ·rw [N7] at hk;simp at hk
  ·rw [N7] at hk;have yN:=hE.pos;have hkd:=hbg b o rfl k hk;rw [dA,aZ (by rw [N7];exact hk)] at hkd;simp only [Option.getD_some] at hkd;rw [hkd];have cZ:k / i.size<ys.length:=by rw [Xb yN];exact hk
   have hr:=qD h3 (aZ cZ);have hc:k % i.size<e.length:=by rw [JW];exact Nat.mod_lt _ yN
   have:=gZ hr (aZ hc) (aZ (by rw [dH hr];exact hc));have hf:=IW (rQ MK (aZ hc)) this;rw [show 0+k / i.size*e.length+k % i.size=k from by rw [JW,cB,Nat.mul_comm];exact Nat.div_add_mod k i.size] at hf;exact hf
 have fq:=aoF (t:=t) (t2:=t2) (ty:=ty) (len:=xs.length) (n:=ys.length) (xc:=ycap) hE ht2 bJ acV hs hyr JX;have aCO:∀x,tx=some x->x∈srcs:=by
  rintro x rfl;rcases hx with ⟨h1,_⟩|⟨x',_,h1,h2,_⟩
  ·cases h1
  ·cases h1;exact h2
 obtain ⟨tyo,aCP⟩:∃tyo:ah Nat,(tyo=some yt/\yt∈srcs)\/(tyo=none/\CT.nowns e=true/\yt∉srcs):=by
  by_cases hm:yt∈srcs
  ·exact ⟨some yt,.inl ⟨rfl,hm⟩⟩
  ·exact ⟨none,.inr ⟨rfl,hyo.resolve_left hm,hm⟩⟩
 have aCQ:∀y,tyo=some y->y∈srcs:=by
  rintro y rfl;rcases aCP with ⟨h1,h2⟩|⟨h1,_⟩
  ·cases h1;exact h2
  ·cases h1
 have arD:CT.allSs (fun S=>∀m,m∈srcs->m∉S) e:=fw (fun S hS=>hS) hm
 -- the rows,in the new colouring
 have rows:∀(κ':aP) (w':aA) (inp:Bool) (get:Nat->aj),(∀b p,κ b=some p->κ' b=Bc tx tyo d (xs.length*e.length) inp p) ->
   (∀S,(∀m,m∈srcs->m∉S)->∀b,bu κ w S b->bu κ' w' S b/\Same w w' b)->(∀b r q,(∃x,(tx=some x/\r=x)\/(tyo=some x/\r=x))->q≠[0]->κ b=some (r,q)->Same w w' b) ->
   (∀b o,ao=some ⟨b,o,none⟩->∀k,k<xs.length*e.length->get k=cellD w b (o+k))->(∀b o,yo=some ⟨b,o,none⟩->∀k,k<ys.length*e.length->get (xs.length*e.length+k)=cellD w b (o+k)) ->
   dF κ' w' e (d,[0]) 0 get (xs++ys):=by
  intro κ' w' inp get hκ bz rD hgx hgy;refine aoE (wY fun k x hk => ?_) (wY fun k y hk => ?_)
  ·have N8:=(bn hk).1;rcases hx with ⟨_,rfl,_⟩|⟨x',pin,rfl,yP,um⟩
   ·simp at N8
   ·simp only [RC] at um;obtain ⟨_,_,hh,dD,hc⟩:=um;cases hh;rcases hc with ⟨_,rfl⟩|⟨b,o,rfl,wT,hb,hw,he⟩
    ·omega
    ·have hr:=qD he hk;have bF:=jg e.length (show k+1<=xs.length by omega);rw [eD] at bF;have:=gH (f:=id) (P:=fun S=>∀m,m∈srcs->m∉S) (κ':=κ') (w':=w') (p':=(d,[0])) (j':=0+k*e.length) (get':=get) bz arD (fun c hc b' q di=>⟨?_,?_⟩) (fun c hc => ?_) hr
     ·rwa [iU] at this
     ·rw [hκ b' _ di];simp [Bc]
     ·exact rD b' _ _ ⟨x',.inl ⟨rfl,rfl⟩⟩ (by simp) di
     ·rw [hgx b o rfl _ (by omega)]
  ·have N8:=(bn hk).1;rcases hy with rfl|⟨b,o,rfl,FF,he⟩
   ·simp at N8
   ·have hr:=qD he hk;have bF:=jg e.length (show k+1<=ys.length by omega);rw [eD] at bF;rcases aCP with ⟨rfl,hys⟩|⟨rfl,arB,_⟩
    ·have:=gH (f:=id) (P:=fun S=>∀m,m∈srcs->m∉S) (κ':=κ') (w':=w') (p':=(d,[0])) (j':=0+xs.length*e.length+k*e.length) (get':=get) bz arD (fun c hc b' q di=>⟨?_,?_⟩) (fun c hc => ?_) hr
     ·rwa [iU] at this
     ·rw [hκ b' _ di];have bv:¬some yt=tx:=fun h=>hxy h.symm
      simp [Bc,bv];omega
     ·exact rD b' _ _ ⟨yt,.inr ⟨rfl,rfl⟩⟩ (by simp) di
     ·rw [show 0+xs.length*e.length+k*e.length+c=xs.length*e.length+(k*e.length+c) from by omega,hgy b o rfl _ (by omega)];congr 1;omega
    ·refine jU (P:=fun S=>∀m,m∈srcs->m∉S) bz arB arD (fun c hc => ?_) hr;rw [show 0+xs.length*e.length+k*e.length+c=xs.length*e.length+(k*e.length+c) from by omega,hgy b o rfl _ (by omega)];congr 1;omega
 have axp:∀inp r q,r∉d::srcs->Bc tx tyo d (xs.length*e.length) inp (r,q)=some (r,q):=by
  intro inp r q hr;simp at hr;have h1:¬some r=tx:=fun he=>hr.2 (aCO r he.symm)
  have h2:¬some r=tyo:=fun he=>hr.2 (aCQ r he.symm)
  simp [Bc,h1,h2,hr.1]
 have hFM:=fun inp=>aDV (d:=d) (m:=xs.length*e.length) (inp:=inp) aCO aCQ
 -- tags of the others
 have fin:∀(κ':aP) (w':aA) (v:aj),TR ac κ' w' (upd (fun u=>if u∈srcs then .dead else (tg u).kill (d::srcs) srcs) d (.val false [.sl (.own none) e])) (upd sv d (.v [.s (xs++ys)] [])) (upd tm d v) d (.val false [.sl (.own none) e]) ->
   ∀u,u∈d::srcs->TR ac κ' w' (upd (fun u=>if u∈srcs then .dead else (tg u).kill (d::srcs) srcs) d (.val false [.sl (.own none) e])) (upd sv d (.v [.s (xs++ys)] [])) (upd tm d v) u
    (upd (fun u=>if u∈srcs then .dead else (tg u).kill (d::srcs) srcs) d (.val false [.sl (.own none) e]) u):=by
  intro κ' w' v hT u hu;by_cases FH:u=d
  ·subst FH;rw [bI];exact hT
  ·simp [FH] at hu;simp [upd,FH,hu,TR]
 have pz:∀u,N<=u->upd (fun u=>if u∈srcs then .dead else (tg u).kill (d::srcs) srcs) d (.val false [.sl (.own none) e]) u = .dead:=by
  intro u hu;have bv:u≠d:=by omega
  simp only [upd,bv,if_false];split
  ·rfl
  ·simp [h.out u hu,TT.kill]
 have sK:∀r,r∉d::srcs->upd (fun u=>if u∈srcs then .dead else (tg u).kill (d::srcs) srcs) d (.val false [.sl (.own none) e]) r=(tg r).kill (d::srcs) srcs:=by
  intro r hr;simp at hr;simp [upd,hr]
 rcases fq with ⟨b,o,rfl,dD,fq⟩|⟨h0,rfl,fq⟩|⟨newCap,rest,bZ,JU,aEo,fq⟩
 ·-- in place
  obtain ⟨x,pin,rfl,yP,um⟩:∃x pin,tx=some x/\x∈srcs/\RC κ w (.sl (.own pin) e) (x,[0]) (.slice (some ⟨b,o,none⟩) xs.length cap) (.s xs):=by
   rcases hx with ⟨_,_,h1,_⟩|h1
   ·cases h1
   ·exact h1
  simp only [RC] at um;obtain ⟨_,_,hh,aJa,hc⟩:=um;cases hh;rcases hc with ⟨hc,_⟩|⟨b',o',hc,wT,hb,hw,he⟩
  ·cases hc
  cases hc;have fO:=kM (behind w (ys.length*i.size) yo) w b (o+xs.length*i.size);have abA:∀b p,κ b=some p->aW κ (Bc (some x) tyo d (xs.length*e.length) true) none b=Bc (some x) tyo d (xs.length*e.length) true p:=fun b p hb=>rR (fun _ _ h=>by cases h) h.col hb
  have aGk:∀S b',(∀m,m∈srcs->m∉S)->bu κ w S b'->b'≠b:=by
   rintro S b' hS di rfl;exact hS x yP (di.2 _ _ hb).1
  have bz:∀S,(∀m,m∈srcs->m∉S)->∀b',bu κ w S b'->bu (aW κ (Bc (some x) tyo d (xs.length*e.length) true) none) (bO w b (o+xs.length*i.size) (behind w (ys.length*i.size) yo)) S b' /\
    Same w (bO w b (o+xs.length*i.size) (behind w (ys.length*i.size) yo)) b':=by
   intro S hS b' di;have:=(nJ (Grows.refl w) (hFM true) (nb:=none) (fun _ _ h=>by cases h) hS b' di).1;exact ⟨⟨by rw [fO.1];exact this.1,this.2⟩,dJ (aGk S b' hS di)⟩
  have acW:=jg i.size dD;rw [eD] at acW;have jK:∀k,k<xs.length*e.length->cellD (bO w b (o+xs.length*i.size) (behind w (ys.length*i.size) yo)) b (o+k)=cellD w b (o+k):=by
   intro k hk;rw [JW] at hk;unfold cellD;rw [iJ,if_neg (by omega)]
  refine ⟨_,_,_,fq,uy (κ':=aW κ (Bc (some x) tyo d (xs.length*e.length) true) none) (mods:=d::srcs) (M:=srcs) h qy bz (fun b' r q hr di => ?_) (fun r hr=>.inl (sK r hr)) (fun r hr => ?_) (fun r hr => ?_) (fin _ _ _ ?_) pz (fun b' di => ?_) ?_⟩
  ·refine ⟨by rw [abA b' _ di,axp true r q hr,di],dJ ?_⟩;rintro rfl;rw [hb] at di;cases di;simp at hr;exact hr.2 yP
  ·simp at hr;simp [upd,hr]
  ·simp at hr;simp [upd,hr]
  ·simp only [TR,bI];refine ⟨_,[.slice (some ⟨b,o,none⟩) (xs.length+ys.length) cap],rfl,rfl,rfl,fun k j c e' hk=>by cases k<;>simp at hk,?_⟩;simp only [aB,RC];refine ⟨⟨_,cap,by simp,by simpa using dD,.inr ⟨b,o,rfl,by rw [fO.1];exact wT,by rw [abA b _ hb];simp [Bc,Pl.at],nH hw,?_⟩⟩,trivial⟩;have:=rows _ (bO w b (o+xs.length*i.size) (behind w (ys.length*i.size) yo)) true (fun j=>cellD (bO w b (o+xs.length*i.size) (behind w (ys.length*i.size) yo)) b (o+j)) abA bz
    (fun b' r q hr hq di=>dJ (by
     rintro rfl
     rw [hb] at di;cases di
     exact hq rfl))
    (fun b1 o1 h1 k hk=>by cases h1;exact jK k hk)
    (fun b1 o1 h1 k hk=>by
     rw [JW] at hk ⊢
     have hW:Wrb w b (o+xs.length*i.size) (o+xs.length*i.size+(behind w (ys.length*i.size) yo).length):=by
      rw [N7];rw [JW] at hw;exact hw.sub (by omega) (by omega)
     have:=Ar hW k (by rw [N7];exact hk)
     rw [<-hbg b1 o1 h1 k hk,<-this]
     congr 1;omega)
   simpa [Pl.at] using this
  ·rw [fO.1] at di;simp [aW,h.col b' di]
  ·refine ⟨by rw [fO.1];exact h.fr.size,fun b' di h0 => ?_,by rw [fO.2.1];exact h.fr.os,by rw [fO.2.2.1];exact h.fr.out,by rw [fO.2.2.2.1];exact h.fr.tape⟩;have hk:=h.fr.kept b' di h0;have oq:b'≠b:=by rintro rfl;rw [hk.1] at hb;cases hb
   exact ⟨by simp [aW,hk.1],by rw [fO.2.2.2.2.1 b' oq];exact hk.2⟩
 ·-- nothing to nothing
  have hx0:xs=[]:=nz.1 (by omega);have hy0:ys=[]:=nz.1 (by omega);refine ⟨_,_,_,fq,abP (F:=Bc tx tyo d (xs.length*e.length) false) (nb:=none) (mods:=d::srcs) (M:=srcs) h qy (Grows.refl w) (axp false) (hFM false) (fun _ _ h=>by cases h) sK (fun r hr => ?_) (fun r hr => ?_) (fin _ _ _ ?_) pz⟩
  ·simp at hr;simp [upd,hr]
  ·simp at hr;simp [upd,hr]
  ·simp only [TR,bI];refine ⟨_,[.slice none 0 0],rfl,rfl,rfl,fun k j c e' hk=>by cases k<;>simp at hk,?_⟩;simp only [aB,RC];subst hx0;subst hy0;exact ⟨⟨none,0,by simp,by simp,.inl ⟨rfl,rfl⟩⟩,trivial⟩
 ·-- a new block
  have gY:Grows w (gu (kC w) (behind w (xs.length*i.size) ao++behind w (ys.length*i.size) yo++rest).toArray eT):=(akK w).trans (uz _ _ _);have qA:(behind w (xs.length*i.size) ao).length=xs.length*i.size:=by
   refine Xp w _ ao ?_;rcases hs with ⟨_,rfl⟩|⟨b,o,rfl,_⟩
   ·left;have:xs.length=0:=by omega
    rw [this];simp
   ·exact .inr (by simp)
  have oz:∀b p,some (w.heap.size,((d,[0]):Pl))=some (b,p)->w.heap.size<=b:=fun b p h=>by cases h;exact dV _
  have abA:∀b p,κ b=some p->aW κ (Bc tx tyo d (xs.length*e.length) false) (some (w.heap.size,(d,[0]))) b=Bc tx tyo d (xs.length*e.length) false p:=fun b p hb=>rR oz h.col hb
  have bz:∀S,(∀m,m∈srcs->m∉S)->∀b',bu κ w S b'->bu (aW κ (Bc tx tyo d (xs.length*e.length) false) (some (w.heap.size,(d,[0])))) (gu (kC w) (behind w (xs.length*i.size) ao++behind w (ys.length*i.size) yo++rest).toArray eT) S b' /\
    Same w (gu (kC w) (behind w (xs.length*i.size) ao++behind w (ys.length*i.size) yo++rest).toArray eT) b':=fun S hS b' di=>nJ gY (hFM false) oz hS b' di
  refine ⟨_,_,_,fq,abP (F:=Bc tx tyo d (xs.length*e.length) false) (nb:=some (w.heap.size,(d,[0]))) (mods:=d::srcs) (M:=srcs) h qy gY (axp false) (hFM false) (fun b p h=>by cases h;simp [gu,kC]) sK (fun r hr => ?_) (fun r hr => ?_) (fin _ _ _ ?_) pz⟩
  ·simp at hr;simp [upd,hr]
  ·simp at hr;simp [upd,hr]
  ·simp only [TR,bI];have hcD:∀k,cellD (gu (kC w) (behind w (xs.length*i.size) ao++behind w (ys.length*i.size) yo++rest).toArray eT) w.heap.size k=(behind w (xs.length*i.size) ao++behind w (ys.length*i.size) yo++rest).getD k undef:=by
    intro k;exact Hu (kC w) _ eT k
   refine ⟨_,[.slice (some ⟨w.heap.size,0,none⟩) (xs.length+ys.length) newCap],rfl,rfl,rfl,fun k j c e' hk=>by cases k<;>simp at hk,?_⟩;simp only [aB,RC];refine ⟨⟨_,newCap,by simp,by simpa using JU,.inr ⟨w.heap.size,0,rfl,by simp [gu,kC],by simp [aW,Pl.at],?_,?_⟩⟩,trivial⟩
   ·have:=Oi (kC w) (behind w (xs.length*i.size) ao++behind w (ys.length*i.size) yo++rest).toArray eT 0 (0+newCap*e.length) (by
     simp only [List.size_toArray,bq,qA,N7,aEo,JW]
     have:newCap=(xs.length+ys.length)+(newCap-(xs.length+ys.length)):=by omega
     conv=>lhs;rw [this]
     rw [eD,eD];omega)
    exact this
   ·have:=rows _ (gu (kC w) (behind w (xs.length*i.size) ao++behind w (ys.length*i.size) yo++rest).toArray eT) false (fun j=>cellD (gu (kC w) (behind w (xs.length*i.size) ao++behind w (ys.length*i.size) yo++rest).toArray eT) w.heap.size j) abA bz
     (fun b' r q hr hq di=>gY.same b')
     (fun b1 o1 h1 k hk=>by
      rw [hcD,dA,fJ,rH (by rw [qA,<-JW];exact hk)]
      subst h1
      simp only [behind,JW] at hk ⊢
      simp [hk])
     (fun b1 o1 h1 k hk=>by
      rw [JW] at hk ⊢
      rw [hcD,dA,fJ,vE (by rw [qA];omega),qA,rH (by rw [N7];omega)]
      rw [show xs.length*i.size+k-xs.length*i.size=k from by omega,<-dA]
      exact hbg b1 o1 h1 k hk)
    simpa [Pl.at] using this
end
end Go.Fw
