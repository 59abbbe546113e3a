/- What the given functions come to. No conditions. -/
import Derived.Test.YtbdciplhpomakaaGreatM1
set_option linter.unusedSectionVars false
namespace Go.Fw
abbrev kZ:=Int × Int × List aD × An
abbrev ObV:=Int × Int × List aD × Int × Bool × List Ed × List Int × Int × Bool × List Ed × List Int × Int
noncomputable def OB (S:kZ) (o:Bn):ObV:=((oZ (S,o)).getD ((0,0,[],0,false,[],[],0,false,[],[],0),())).1
def shO (r:ObV):kZ:=(r.1,r.2.1,r.2.2.1,r.2.2.2.1,r.2.2.2.2.1,r.2.2.2.2.2.1,r.2.2.2.2.2.2.1)
def VV (S:kZ):Prop:=S.2.2.1.length<=1048576/\S.2.2.2.2.2.1.length<=1048576/\S.2.2.2.2.2.2.length<=1048576
theorem aro {S:kZ} {o:Bn} (h:VV S) (ho:o.2.2.1.length<=1048576):oZ (S,o)=some (OB S o,())/\nK (S,o)=some (OB S o,())/\VV (shO (OB S o))/\(OB S o).2.2.2.2.2.2.2.2.2.1.length<=1048576/\(OB S o).2.2.2.2.2.2.2.2.2.2.1.length<=1048576:=by
 obtain ⟨x0,n,L,y⟩:=S;obtain ⟨h1,h2,h3⟩:=h;obtain ⟨a,b,M,z,z',e,w1,w2,lM,⟨l5,l6⟩,l7,l8⟩:=aB4 x0 n L y o h1 h2 h3 ho;have:OB (x0,n,L,y) o=(a,b,M,z.1,z.2.1,z.2.2.1,z.2.2.2,z'.1,z'.2.1,z'.2.2.1,z'.2.2.2,e):=by
  unfold OB;rw [w1];rfl
 rw [this];exact ⟨w1,w2,⟨lM,l5,l6⟩,l7,l8⟩
def Hf (y:Rc):Bn:=y.2.2.2.2.2.2.2.2.2.2
noncomputable def yu (S:kZ) (y:Rc):ah kZ:=if y.1=3/\(OB S (Hf y)).2.2.2.2.2.2.2.2.2.2.2=0 then some (shO (OB S (Hf y))) else none
theorem aDU {S S':kZ} {y:Rc} (h:VV S) (hy:y.2.2.2.2.2.2.2.2.2.2.2.2.1.length<=1048576) (e:yu S y=some S'):VV S':=by
 unfold yu at e;split at e
 ·cases e;exact (aro h hy).2.2.1
 ·cases e
theorem aj7:∀(l:aa Rc) (S S':kZ),(∀y,y∈l->y.2.2.2.2.2.2.2.2.2.2.2.2.1.length<=1048576)->VV S->fM yu S l=some S'->VV S'
 | [],S,S',_,hs,e=>by
  simp only [fM,aO] at e;rw [<-e];exact hs
 | y::l,S,S',hl,hs,e=>by
  rw [fM] at e;cases hy:yu S y with
  | none=>rw [hy] at e;cases e
  | some S1=>
   rw [hy] at e;exact aj7 l S1 S' (fun z hz=>hl z (dU _ hz)) (aDU hs (hl y (dX ..)) hy) e
noncomputable def sfO (a b:Int) (rs:aa Rc):ah kZ:=if (aY a 1 3&&aY b 1 12)=true then fM yu (a,b,[],0,false,[],[]) rs else none
def sfF (o:ah kZ):Int × Int × aa aD × Int × Bool × aa Ed × aa Int × Bool:=match o with|none=>(0,0,[],0,false,[],[],false)|some S=>(S.1,S.2.1,S.2.2.1,S.2.2.2.1,S.2.2.2.2.1,S.2.2.2.2.2.1,S.2.2.2.2.2.2,true)
def RcO (rs:aa Rc):Prop:=rs.length<=1048576/\∀y,y∈rs->y.2.2.2.2.2.2.2.2.2.2.2.2.1.length<=1048576
def zS:kZ:=(0,0,[],0,false,[],[])
theorem aj8 (a b:Int) (rs:aa Rc) (hz:RcO rs):Fh (a,b,rs)=some (sfF (sfO a b rs),()):=by
 have hm:maxLen=9223372036854775807:=by decide
 obtain ⟨hz1,hz2⟩:=hz;show Fg BIG _=_;rw [ajs,ame,ae];unfold sfO;by_cases hc:(aY a 1 3&&aY b 1 12)=true;case neg=>
  rw [if_neg hc,if_neg hc];rfl
 rw [if_pos hc,if_pos hc];simp only [bC,ax];have hB0:VV (a,b,[],0,false,[],[]):=⟨by simp,by simp,by simp⟩
 have key:=p_ (F:=fun (self2:kZ × kZ × Int->ah ((kZ × kZ) ⊕ (kZ × Bool))) (x1:kZ × kZ × Int)=>
  bif decide (x1.2.2<(rs.length:Int)) then
   Option.bind (bnd rs.length x1.2.2 fun n3=>
    Option.bind rs[n3]? fun y4=>
    Option.bind (oZ (x1.2.1,y4.2.2.2.2.2.2.2.2.2.2)) fun r5=>
    Option.bind (bif !decide (y4.1=(3:Int)) then
     some true
     else some (!decide (r5.1.2.2.2.2.2.2.2.2.2.2.2=(0:Int))):ah (Bool)) fun x6=>
    bif x6 then
     some (Sum.inr (((0:Int),(0:Int),[],(0:Int),false,[],[]),false))
    else some (Sum.inl (x1.1,(r5.1.1,r5.1.2.1,r5.1.2.2.1,r5.1.2.2.2.1,r5.1.2.2.2.2.1,r5.1.2.2.2.2.2.1,r5.1.2.2.2.2.2.2.1))):ah ((kZ × kZ) ⊕ (kZ × Bool))) fun y=>match y with
   | .inl x7=>
    self2 (x7.1,x7.2,IntKind.wrap .i64 (x1.2.2+(1:Int)))
   | .inr x7=>
    some (Sum.inr (x7.1,x7.2))
  else some (Sum.inl (x1.1,x1.2.1)))
  (fun x=>∃(i:Nat) (S:kZ),i<=rs.length/\x=(zS,S,(i:Int))/\VV S) (fun x=>rs.length-x.2.2.toNat)
  (fun x r=>∀(i:Nat) (S:kZ),x=(zS,S,(i:Int))->r=(match fM yu S (rs.drop i) with|none=>Sum.inr (zS,false)|some S'=>Sum.inl (zS,S')))
  (fun self x ⟨i,S,hi,hx,hS⟩ hs=>by
   subst hx
   simp only at hs ⊢
   have uniq:∀{i':Nat} {S':kZ},((zS,S,(i:Int)):kZ × kZ × Int)=(zS,S',(i':Int))->i'=i/\S'=S:=fun h=>by
    simp only [di,true_and] at h
    exact ⟨by omega,h.1.symm⟩
   by_cases hl:i<rs.length
   ·have hy:=hz2 _ (nM hl)
    obtain ⟨o1,_,o3,_,_⟩:=aro (S:=S) (o:=Hf rs[i]) hS (by exact hy)
    have hd:rs.drop i=rs[i]::rs.drop (i+1):=u6 hl
    simp only [show ((i:Int)<(rs.length:Int)) from by omega,decide_true,ai]
    rw [aH hl,aT hl,ae,show rs[i].2.2.2.2.2.2.2.2.2.2=Hf rs[i] from rfl,o1,ae,bV (by omega)]
    by_cases c1:rs[i].1=3
    ·by_cases c2:(OB S (Hf rs[i])).2.2.2.2.2.2.2.2.2.2.2=0
     ·rw [ak c1,ak c2]
      obtain ⟨r,g1,g2⟩:=hs (zS,shO (OB S (Hf rs[i])),((i+1:Nat):Int)) ⟨i+1,_,hl,rfl,o3⟩ (by simp;omega)
      refine ⟨r,g1,fun i' S' h => ?_⟩
      obtain ⟨rfl,rfl⟩:=uniq h
      rw [g2 _ _ rfl,hd,fM,show yu S' rs[i']=some (shO (OB S' (Hf rs[i']))) from by unfold yu;rw [if_pos ⟨c1,c2⟩]]
      rfl
     ·rw [ak c1,aA c2]
      refine ⟨_,rfl,fun i' S' h => ?_⟩
      obtain ⟨rfl,rfl⟩:=uniq h
      rw [hd,fM,show yu S' rs[i']=none from by unfold yu;rw [if_neg (fun h=>c2 h.2)]]
      rfl
    ·rw [aA c1]
     refine ⟨_,rfl,fun i' S' h => ?_⟩
     obtain ⟨rfl,rfl⟩:=uniq h
     rw [hd,fM,show yu S' rs[i']=none from by unfold yu;rw [if_neg (fun h=>c1 h.1)]]
     rfl
   ·simp only [show ¬((i:Int)<(rs.length:Int)) from by omega,decide_false,ax]
    refine ⟨_,rfl,fun i' S' h => ?_⟩
    obtain ⟨rfl,rfl⟩:=uniq h
    have:i'=rs.length:=by omega
    subst this
    rw [List.drop_length,fM])
  (n:=BIG) (x:=(zS,(a,b,[],0,false,[],[]),((0:Nat):Int))) (by simp [BIG];omega) ⟨0,_,by omega,rfl,hB0⟩
 obtain ⟨r,g1,g2⟩:=key;refine (Du g1 _).trans ?_;rw [g2 0 _ rfl,tu];cases fM yu (a,b,[],0,false,[],[]) rs<;>rfl
theorem aj9 (a b:Int) (rs:aa Rc) (hz:RcO rs):Fp (a,b,rs)=some (sfF (sfO a b rs),()):=by
 have hm:maxLen=9223372036854775807:=by decide
 obtain ⟨hz1,hz2⟩:=hz;show Fj BIG _=_;rw [aju,VN,ae];have key:∀(b0:Bool) (S0:kZ),VV S0->_:=fun b0 S0 hB0=>p_ (F:=fun (self2:Bool × kZ × Int->ah (Bool × kZ)) (x1:Bool × kZ × Int)=>
  Option.bind (bif decide (x1.2.2<(rs.length:Int)) then
   some x1.1
   else some false:ah (Bool)) fun x3=>
  bif x3 then
   Option.bind (bnd rs.length x1.2.2 fun n4=>
    Option.bind rs[n4]? fun y5=>
    Option.bind (nK (x1.2.1,y5.2.2.2.2.2.2.2.2.2.2)) fun r6=>
    Option.bind (bnd rs.length x1.2.2 fun n7=>
     Option.bind rs[n7]? fun y8=>
     bif decide (y8.1=(3:Int)) then
      some (decide (r6.1.2.2.2.2.2.2.2.2.2.2.2=(0:Int)))
     else some false:ah (Bool)) fun x9=>
    some (x9,(r6.1.1,r6.1.2.1,r6.1.2.2.1,r6.1.2.2.2.1,r6.1.2.2.2.2.1,r6.1.2.2.2.2.2.1,r6.1.2.2.2.2.2.2.1)):ah (Bool × kZ)) fun x10=>
   self2 (x10.1,x10.2,IntKind.wrap .i64 (x1.2.2+(1:Int)))
  else some (x1.1,x1.2.1))
  (fun x=>∃(i:Nat) (b:Bool) (S:kZ),i<=rs.length/\x=(b,S,(i:Int))/\VV S) (fun x=>rs.length-x.2.2.toNat)
  (fun x r=>∀(i:Nat) (b:Bool) (S:kZ),x=(b,S,(i:Int))->match (if b=true then fM yu S (rs.drop i) else none) with|none=>r.1=false|some S'=>r=(true,S'))
  (fun self x ⟨i,b,S,hi,hx,hS⟩ hs=>by
   subst hx
   simp only at hs ⊢
   have uniq:∀{i':Nat} {b':Bool} {S':kZ},((b,S,(i:Int)):Bool × kZ × Int)=(b',S',(i':Int))->b'=b/\i'=i/\S'=S:=fun h=>by
    simp only [di] at h
    exact ⟨h.1.symm,by omega,h.2.1.symm⟩
   by_cases hl:i<rs.length
   ·have hy:=hz2 _ (nM hl)
    obtain ⟨_,o1,o3,_,_⟩:=aro (S:=S) (o:=Hf rs[i]) hS (by exact hy)
    have hd:rs.drop i=rs[i]::rs.drop (i+1):=u6 hl
    have bi:∀{B:Type} {q:Nat->ah B},bnd rs.length (i:Int) q=q i:=fun {B q}=>aH hl
    simp only [show ((i:Int)<(rs.length:Int)) from by omega,decide_true,ai,ae]
    cases b with
    | false=>
     refine ⟨_,rfl,fun i' b' S' h => ?_⟩
     obtain ⟨rfl,rfl,rfl⟩:=uniq h
     rfl
    | true=>
     simp only [ai,bi,aT hl,ae]
     rw [show rs[i].2.2.2.2.2.2.2.2.2.2=Hf rs[i] from rfl,o1,ae,bV (by omega)]
     by_cases c1:rs[i].1=3/\(OB S (Hf rs[i])).2.2.2.2.2.2.2.2.2.2.2=0
     ·rw [ak c1.1,ak c1.2]
      obtain ⟨r,g1,g2⟩:=hs (true,shO (OB S (Hf rs[i])),((i+1:Nat):Int)) ⟨i+1,_,_,hl,rfl,o3⟩ (by simp;omega)
      refine ⟨r,g1,fun i' b' S' h => ?_⟩
      obtain ⟨rfl,rfl,rfl⟩:=uniq h
      have:=g2 _ _ _ rfl
      rw [if_pos rfl] at this ⊢
      rw [hd,fM,show yu S' rs[i']=some (shO (OB S' (Hf rs[i']))) from by unfold yu;rw [if_pos c1]]
      exact this
     ·have hb:(bif decide (rs[i].1=(3:Int)) then some (decide ((OB S (Hf rs[i])).2.2.2.2.2.2.2.2.2.2.2=(0:Int))) else some false:ah Bool)=some false:=by
       by_cases c:rs[i].1=3
       ·rw [ak c,aA (fun h=>c1 ⟨c,h⟩)];rfl
       ·rw [aA c];rfl
      rw [hb]
      obtain ⟨r,g1,g2⟩:=hs (false,shO (OB S (Hf rs[i])),((i+1:Nat):Int)) ⟨i+1,_,_,hl,rfl,o3⟩ (by simp;omega)
      refine ⟨r,g1,fun i' b' S' h => ?_⟩
      obtain ⟨rfl,rfl,rfl⟩:=uniq h
      have:=g2 _ _ _ rfl
      rw [if_neg (by simp)] at this
      rw [if_pos rfl,hd,fM,show yu S' rs[i']=none from by unfold yu;rw [if_neg c1]]
      exact this
   ·simp only [show ¬((i:Int)<(rs.length:Int)) from by omega,decide_false,ax,ae]
    refine ⟨_,rfl,fun i' b' S' h => ?_⟩
    obtain ⟨rfl,rfl,rfl⟩:=uniq h
    have:i'=rs.length:=by omega
    subst this
    rw [List.drop_length,fM]
    cases b'<;>rfl)
  (n:=BIG) (x:=(b0,S0,((0:Nat):Int))) (by simp [BIG];omega) ⟨0,_,_,by omega,rfl,hB0⟩
 unfold sfO;by_cases hc:(aY a 1 3&&aY b 1 12)=true
 ·rw [if_pos hc,if_pos hc];obtain ⟨r,g1,g2⟩:=key true (a,b,[],0,false,[],[]) ⟨by simp,by simp,by simp⟩;refine (Du g1 _).trans ?_;have:=g2 0 _ _ rfl;rw [if_pos rfl,tu] at this;have hf:=aj7 rs (a,b,[],0,false,[],[]);cases hS:fM yu (a,b,[],0,false,[],[]) rs with
  | none=>
   rw [hS] at this;simp only at this;simp only [this,ib,ai];rfl
  | some S'=>
   rw [hS] at this;simp only at this;obtain ⟨k1,k2,k3⟩:=hf S' (fun y hy=>hz2 y hy) ⟨by simp,by simp,by simp⟩ hS;subst this;obtain ⟨p0,p1,p2,p3⟩:=S';simp only [bC,ax];rw [yn p0 p1 p2 p3 k1 k2 k3,ae];rfl
 ·rw [if_neg hc,if_neg hc];obtain ⟨r,g1,g2⟩:=key false (0,0,[],0,false,[],[]) ⟨by simp,by simp,by simp⟩;refine (Du g1 _).trans ?_;have:=g2 0 _ _ rfl;rw [if_neg (by simp)] at this;simp only at this;simp only [this,ib,ai];rfl
def cz (n:Nat) (E:aa Ed) (v:Int):Nat:=(labs n E).count ((labs n E).getD v.toNat 0)
theorem aj_ (n:Nat) (L:aa aD) (k:Int) (v:Int):cmp n L k v=cz n (aN L k) v:=rfl
def czL (n:Nat) (E:aa Ed) (v:Int):aa Nat:=(List.range n).filter fun i=>decide ((labs n E).getD i 0=(labs n E).getD v.toNat 0)
theorem Kg (n:Nat) (E:aa Ed) (v:Int):cz n E v=(czL n E v).length:=by
 unfold cz czL;rw [auW,dV]
theorem aka (n:Nat) (E:aa Ed) (v:Int):(czL n E v).Nodup:=(List.nodup_range (n:=n)).sublist XX
theorem tV {n:Nat} {E:aa Ed} (hE:o8 n E) {v:Int} (hv:0<=v/\v<n) (i:Nat):i∈czL n E v↔i<n/\Con E v i:=by
 unfold czL;rw [jQ,jg,decide_eq_true_eq];constructor
 ·rintro ⟨h1,h2⟩;have hl:=lu hE;have:=hl.iff (getD_at (show i<(labs n E).length by rw [dV];omega)) (getD_at (show v.toNat<(labs n E).length by rw [dV];omega));rw [jL hv.1] at this;exact ⟨h1,(this.1 h2).symm⟩
 ·rintro ⟨h1,h2⟩;have hl:=lu hE;have:=hl.iff (getD_at (show i<(labs n E).length by rw [dV];omega)) (getD_at (show v.toNat<(labs n E).length by rw [dV];omega));rw [jL hv.1] at this;exact ⟨h1,this.2 h2.symm⟩
theorem aDV (n:Nat) (E:aa Ed) (v:Int):cz n E v<=n:=by
 have:=List.count_le_length (a:=(labs n E).getD v.toNat 0) (l:=labs n E);rw [dV] at this;exact this
theorem o_ {n:Nat} {E E':aa Ed} (hE:o8 n E) (hE':o8 n E') {v w:Int} (hv:0<=v/\v<n) (hw:0<=w/\w<n) (h:∀x,Con E v x->Con E' w x):cz n E v<=cz n E' w:=by
 rw [Kg,Kg];refine mI _ _ (aka n E v) fun i hi => ?_
 obtain ⟨h1,h2⟩:=(tV hE hv i).1 hi;exact (tV hE' hw i).2 ⟨h1,h _ h2⟩
theorem aB5 {n:Nat} {E E':aa Ed} (hE:o8 n E) (hE':o8 n E') {v u w:Int} (hv:0<=v/\v<n) (hu:0<=u/\u<n) (hw:0<=w/\w<n) (h1:∀x,Con E v x->Con E' w x) (h2:∀x,Con E u x->Con E' w x) (hd:¬Con E v u):cz n E v+cz n E u<=cz n E' w:=by
 rw [Kg,Kg,Kg,<-dR];refine mI _ _ (RU.2 ⟨aka n E v,aka n E u,fun i hi j hj wI => ?_⟩) fun i hi => ?_
 ·subst wI;exact hd (((tV hE hv i).1 hi).2.trans ((tV hE hu i).1 hj).2.symm)
 ·rcases bJ.1 hi with hi|hi
  ·obtain ⟨g1,g2⟩:=(tV hE hv i).1 hi;exact (tV hE' hw i).2 ⟨g1,h1 _ g2⟩
  ·obtain ⟨g1,g2⟩:=(tV hE hu i).1 hi;exact (tV hE' hw i).2 ⟨g1,h2 _ g2⟩
theorem aB6 {n:Nat} {E:aa Ed} (hE:o8 n E) {v:Int} (hv:0<=v/\v<n):1<=cz n E v:=by
 rw [Kg];exact List.length_pos_of_mem ((tV hE hv v.toNat).2 ⟨by omega,by rw [jL hv.1];exact .refl _⟩)
theorem iO {L:aa aD} {k:Int} {e:Ed}:e∈aN L k↔∃y,y∈L/\y.2.2.2=true/\k<=y.2.2.1/\(y.1,y.2.1)=e:=by
 unfold aN;simp only [bY,jQ,aU,decide_eq_true_eq,and_assoc]
theorem S9 {E:aa Ed} {e:Ed} {r o:Int} (h:(r=e.1/\o=e.2)\/(r=e.2/\o=e.1)) {u v:Int}:Con (E++[e]) u v↔Con E u v\/(Con E u r/\Con E o v)\/(Con E u o/\Con E r v):=by
 obtain ⟨a,b⟩:=e;rw [Con.snoc];rcases h with ⟨rfl,rfl⟩|⟨rfl,rfl⟩
 ·exact Iff.rfl
 ·constructor
  ·rintro (h|h|h)
   ·exact .inl h
   ·exact .inr (.inr h)
   ·exact .inr (.inl h)
  ·rintro (h|h|h)
   ·exact .inl h
   ·exact .inr (.inr h)
   ·exact .inr (.inl h)
structure Inv (n:Nat) (M:List aD) (e:Ed) (k:Int):Prop where
 gr:jZ n (gE M)=true
 lv:∀x,x∈M->0<=x.2.2.1/\x.2.2.1<=4
 nc:NoCyc (aN M 0)
 dis:¬Con (aN M 0) e.1 e.2
 hi:∀x,x∈M->x.2.2.2=false->k<x.2.2.1->Con (aN M x.2.2.1) x.1 x.2.1
 lo:∀x,x∈M->x.2.2.2=false->x.2.2.1<=k->Con (aN M x.2.2.1++[e]) x.1 x.2.1
 sz:∀j:Nat,1<=j->j<=4->∀f,f∈aN M j->cz n (aN M j) f.1<=n / 2 ^ j
 sz':∀j:Nat,(j:Int)<=k->cz n (aN M j++[e]) e.1<=n / 2 ^ j
theorem Inv.wok {n:Nat} {M:aa aD} {e:Ed} (h:Inv n M e (-1)):WOk n M:=
 ⟨h.gr,h.lv,h.nc,fun x hx ht=>by
  have hr:=fQ ((kr h.gr).1 (x.1,x.2.1) (bY.2 ⟨x,hx,rfl⟩))
  exact (lC h.gr _ ⟨hr.1,hr.2.1⟩ ⟨hr.2.2.1,hr.2.2.2.1⟩).2 (h.hi x hx ht (by have:=(h.lv x hx).1;omega)),h.sz⟩
section
variable {n:Nat} {M:aa aD} {e:Ed} {k:Nat} (hI:Inv n M e (k:Int)) (k3:k<=3) (ha:0<=e.1/\e.1<n) (hb:0<=e.2/\e.2<n)
 {r o:Int} (bu:(r=e.1/\o=e.2)\/(r=e.2/\o=e.1)) (rH:cz n (aN M k) r<=cz n (aN M k) o)
 {s:Int->Bool} (hs:∀x:Int,0<=x/\x<n->(s x=true↔Con (aN M k) r x))
include hI
theorem Inv.rg {x:aD} (hx:x∈M):(0<=x.1/\x.1<n)/\(0<=x.2.1/\x.2.1<n):=by
 have hr:=fQ ((kr hI.gr).1 (x.1,x.2.1) (bY.2 ⟨x,hx,rfl⟩));simp only at hr;omega
theorem Inv.rgE {j:Int} {f:Ed} (hf:f∈aN M j):(0<=f.1/\f.1<n)/\(0<=f.2/\f.2<n):=by
 obtain ⟨y,h1,_,_,rfl⟩:=iO.1 hf;exact hI.rg h1
theorem Inv.ein (j:Int):o8 n (aN M j):=jE hI.gr j
include ha hb
theorem Inv.eine (j:Int):o8 n (aN M j++[e]):=fun f hf=>by
 rcases bJ.1 hf with h|h
 ·exact hI.ein j f h
 ·rw [cB.1 h];exact ⟨ha.1,ha.2,hb.1,hb.2⟩
include bu
theorem Inv.dis' (j:Int) (hj:0<=j):¬Con (aN M j) r o:=by
 intro h;have h0:=h.mono (vT (L:=M) hj);rcases bu with ⟨rfl,rfl⟩|⟨rfl,rfl⟩
 ·exact hI.dis h0
 ·exact hI.dis h0.symm
include rH
theorem Inv.half:cz n (aN M k) r<=n / 2 ^ (k+1):=by
 have hr:0<=r/\r<n:=by rcases bu with ⟨rfl,rfl⟩|⟨rfl,rfl⟩<;>assumption
 have ho:0<=o/\o<n:=by rcases bu with ⟨rfl,rfl⟩|⟨rfl,rfl⟩<;>assumption
 have gT:∀{x y:Int},Con (aN M k) x y->Con (aN M k++[e]) x y:=fun h=>h.mono fun f hf=>jr _ hf
 have mK:Con (aN M k++[e]) e.1 e.2:=.of (jJ _ (cB.2 rfl));have h1:Con (aN M k++[e]) e.1 r:=by
  rcases bu with ⟨rfl,rfl⟩|⟨rfl,rfl⟩
  ·exact .refl _
  ·exact mK
 have h2:Con (aN M k++[e]) e.1 o:=by
  rcases bu with ⟨rfl,rfl⟩|⟨rfl,rfl⟩
  ·exact mK
  ·exact .refl _
 have:=aB5 (hI.ein k) (hI.eine ha hb k) hr ho ha (fun x hx=>h1.trans (gT hx)) (fun x hx=>h2.trans (gT hx)) (hI.dis' ha hb bu k (by omega));have h3:=hI.sz' k (by omega);rw [Nat.pow_succ,<-Nat.div_div_eq_div_mul];omega
end
def f1 (s:Int->Bool) (k:Int) (y:aD):aD:=if lQ s k y=1 then kY k y else y
theorem zY {s:Int->Bool} {k:Int} {y:aD} (k3:k<=3) (c:y.2.2.2=true/\y.2.2.1=k/\s y.1=true):f1 s k y=(y.1,y.2.1,k+1,true):=by
 unfold f1 lQ kY Rk;rw [if_pos c,if_pos rfl,if_neg (by omega),c.1]
theorem wE {s:Int->Bool} {k:Int} {y:aD} (c:¬(y.2.2.2=true/\y.2.2.1=k/\s y.1=true)):f1 s k y=y:=by
 unfold f1 lQ;rw [if_neg c,if_neg (by omega)]
section
variable {M:aa aD} {s:Int->Bool} {k:Int} (k3:k<=3)
include k3
theorem Hg {j:Int} (hj:j≠k+1) {f:Ed}:f∈aN (M.map (f1 s k)) j↔f∈aN M j:=by
 rw [iO,iO];constructor
 ·rintro ⟨y',qz,ht,hl,he⟩;obtain ⟨y,hy,rfl⟩:=bY.1 qz;by_cases c:y.2.2.2=true/\y.2.2.1=k/\s y.1=true
  ·rw [zY k3 c] at ht hl he;simp only at ht hl he;exact ⟨y,hy,c.1,by omega,he⟩
  ·rw [wE c] at ht hl he;exact ⟨y,hy,ht,hl,he⟩
 ·rintro ⟨y,hy,ht,hl,he⟩;refine ⟨f1 s k y,bY.2 ⟨y,hy,rfl⟩,?_⟩;by_cases c:y.2.2.2=true/\y.2.2.1=k/\s y.1=true
  ·rw [zY k3 c];exact ⟨rfl,by simp only;omega,he⟩
  ·rw [wE c];exact ⟨ht,hl,he⟩
theorem Hl {f:Ed}:f∈aN (M.map (f1 s k)) (k+1)↔f∈aN M (k+1)\/(f∈aN M k/\s f.1=true):=by
 rw [iO,iO,iO];constructor
 ·rintro ⟨y',qz,ht,hl,he⟩;obtain ⟨y,hy,rfl⟩:=bY.1 qz;by_cases c:y.2.2.2=true/\y.2.2.1=k/\s y.1=true
  ·rw [zY k3 c] at ht hl he;simp only at ht hl he;exact .inr ⟨⟨y,hy,c.1,by omega,he⟩,by rw [<-he];exact c.2.2⟩
  ·rw [wE c] at ht hl he;exact .inl ⟨y,hy,ht,hl,he⟩
 ·rintro (⟨y,hy,ht,hl,he⟩|⟨⟨y,hy,ht,hl,he⟩,qx⟩)
  ·refine ⟨f1 s k y,bY.2 ⟨y,hy,rfl⟩,?_⟩;rw [wE (fun c=>by omega)];exact ⟨ht,hl,he⟩
  ·refine ⟨f1 s k y,bY.2 ⟨y,hy,rfl⟩,?_⟩;by_cases c:y.2.2.2=true/\y.2.2.1=k/\s y.1=true
   ·rw [zY k3 c];exact ⟨rfl,by simp only;omega,he⟩
   ·rw [wE c];refine ⟨ht,?_,he⟩;have:y.2.2.1≠k:=fun h=>c ⟨ht,h,by rw [<-he] at qx;exact qx⟩
    omega
theorem au3 {j:Int} {f:Ed} (h:f∈aN M j):f∈aN (M.map (f1 s k)) j:=by
 by_cases hj:j=k+1
 ·subst hj;exact (Hl k3).2 (.inl h)
 ·exact (Hg k3 hj).2 h
theorem FI {y:aD} (ht:y.2.2.2=false):y∈M.map (f1 s k)↔y∈M:=by
 constructor
 ·intro qz;obtain ⟨y0,hy,rfl⟩:=bY.1 qz;by_cases c:y0.2.2.2=true/\y0.2.2.1=k/\s y0.1=true
  ·rw [zY k3 c] at ht;cases ht
  ·rw [wE c];exact hy
 ·intro hy;exact bY.2 ⟨y,hy,wE (fun c=>by rw [ht] at c;cases c.1)⟩
theorem ayu (h:∀x,x∈M->0<=x.2.2.1/\x.2.2.1<=4) (k0:0<=k):∀x,x∈M.map (f1 s k)->0<=x.2.2.1/\x.2.2.1<=4:=by
 intro x hx;obtain ⟨y,hy,rfl⟩:=bY.1 hx;by_cases c:y.2.2.2=true/\y.2.2.1=k/\s y.1=true
 ·rw [zY k3 c];simp only;omega
 ·rw [wE c];exact h y hy
end
section
variable {n:Nat} {M:aa aD} {e:Ed} {k:Nat} (hI:Inv n M e (k:Int)) (k3:(k:Int)<=3) (ha:0<=e.1/\e.1<n) (hb:0<=e.2/\e.2<n)
 {r o:Int} (bu:(r=e.1/\o=e.2)\/(r=e.2/\o=e.1)) (rH:cz n (aN M k) r<=cz n (aN M k) o)
 {s:Int->Bool} (hs:∀x:Int,0<=x/\x<n->(s x=true↔Con (aN M k) r x))
include hI k3 ha hb bu rH hs
theorem agG {x:Int} (h:Con (aN M k) r x):Con (aN (M.map (f1 s k)) ((k:Int)+1)) r x:=by
 have hr:0<=r/\r<n:=by rcases bu with ⟨rfl,rfl⟩|⟨rfl,rfl⟩<;>assumption
 induction h with
 | refl=>exact .refl _
 | fwd hc hm ih=>
  refine .fwd ih ((Hl k3).2 (.inr ⟨hm,?_⟩));exact (hs _ (hI.rgE hm).1).2 hc
 | bwd hc hm ih=>
  refine .bwd ih ((Hl k3).2 (.inr ⟨hm,?_⟩));exact (hs _ (hI.rgE hm).1).2 (.bwd hc hm)
theorem aB7 {v x:Int} (hv:¬Con (aN M k) r v) (h:Con (aN (M.map (f1 s k)) ((k:Int)+1)) v x):Con (aN M ((k:Int)+1)) v x:=by
 have gT:∀{x y:Int},Con (aN M ((k:Int)+1)) x y->Con (aN M k) x y:=fun h=>h.mono (vT (by omega))
 induction h with
 | refl=>exact .refl _
 | fwd hc hm ih=>
  rcases (Hl k3).1 hm with hm|⟨hm,qx⟩
  ·exact .fwd ih hm
  ·exfalso;exact hv (((hs _ (hI.rgE hm).1).1 qx).trans (gT ih).symm)
 | bwd hc hm ih=>
  rcases (Hl k3).1 hm with hm|⟨hm,qx⟩
  ·exact .bwd ih hm
  ·exfalso;exact hv ((Con.fwd ((hs _ (hI.rgE hm).1).1 qx) hm).trans (gT ih).symm)
theorem akb (j:Int):o8 n (aN (M.map (f1 s k)) j):=fun f hf=>by
 by_cases hj:j=(k:Int)+1
 ·subst hj
  rcases (Hl k3).1 hf with h|h
  ·exact hI.ein _ f h
  ·exact hI.ein _ f h.1
 ·exact hI.ein _ f ((Hg k3 hj).1 hf)
theorem ayv (j:Nat) (j1:1<=j) (j4:j<=4):∀f,f∈aN (M.map (f1 s k)) j->cz n (aN (M.map (f1 s k)) j) f.1<=n / 2 ^ j:=by
 intro f hf;have MV:=akb hI k3 ha hb bu rH hs;have hr:0<=r/\r<n:=by rcases bu with ⟨rfl,rfl⟩|⟨rfl,rfl⟩<;>assumption
 by_cases hj:(j:Int)=(k:Int)+1
 ·have hjk:j=k+1:=by omega
  subst hjk;have arP:((k+1:Nat):Int)=(k:Int)+1:=by omega
  rw [arP] at hf ⊢;by_cases hc:Con (aN M k) r f.1
  ·refine kz (o_ (MV _) (hI.ein k) ?_ hr fun x hx=>hc.trans (hx.sub fun g hg => ?_)) (hI.half ha hb bu rH)
   ·exact (hc.range (hI.ein k) hr)
   ·rcases (Hl k3).1 hg with h|h
    ·exact .of (vT (by omega) g h)
    ·exact .of h.1
  ·have kF:f∈aN M ((k:Int)+1):=by
    rcases (Hl k3).1 hf with h|⟨h,h'⟩
    ·exact h
    ·exact absurd ((hs _ (hI.rgE h).1).1 h') hc
   have:=hI.sz (k+1) j1 j4 f (by rw [arP];exact kF);rw [arP] at this;exact kz (o_ (MV _) (hI.ein _) (hI.rgE kF).1 (hI.rgE kF).1 fun x hx=>aB7 hI k3 ha hb bu rH hs hc hx) this
 ·have kF:=(Hg k3 hj).1 hf;exact kz (o_ (MV _) (hI.ein _) (hI.rgE kF).1 (hI.rgE kF).1 fun x hx=>hx.mono fun g hg=>(Hg k3 hj).1 hg) (hI.sz j j1 j4 f kF)
theorem awX {M2:aa aD} (h2:M2=(M.map (f1 s k)).map fun y=>if gq s k y=1 then kY k y else y) (eF:∀y,y∈M.map (f1 s k)->gq s k y≠2) (mM:gE M2=gE M):Inv n M2 e ((k:Int)-1):=by
 have hr:0<=r/\r<n:=by rcases bu with ⟨rfl,rfl⟩|⟨rfl,rfl⟩<;>assumption
 have MV:=akb hI k3 ha hb bu rH hs;have hB:∀(j:Int) (f:Ed),f∈aN M2 j↔f∈aN (M.map (f1 s k)) j:=by
  intro j f;rw [h2,iO,iO];constructor
  ·rintro ⟨y',qz,ht,hl,he⟩;obtain ⟨y,hy,rfl⟩:=bY.1 qz;by_cases c:gq s k y=1
   ·rw [if_pos c] at ht;have nH:y.2.2.2=true:=ht;unfold gq at c;rw [if_pos (.inl nH)] at c;omega
   ·rw [if_neg c] at ht hl he;exact ⟨y,hy,ht,hl,he⟩
  ·rintro ⟨y,hy,ht,hl,he⟩;refine ⟨y,bY.2 ⟨y,hy,if_neg fun c => ?_⟩,ht,hl,he⟩;unfold gq at c;rw [if_pos (.inl ht)] at c;omega
 have arQ:∀(j:Int) (f:Ed),j<=k->(f∈aN M2 j↔f∈aN M j):=fun j f hj=>(hB j f).trans (Hg k3 (by omega))
 have nk:∀(j:Int) (f:Ed),f∈aN M j->f∈aN M2 j:=fun j f h=>(hB j f).2 (au3 k3 h)
 -- what is no edge of a forest
 have arR:∀x,x∈M2->x.2.2.2=false->(x∈M/\gq s k x≠1)\/∃y,y∈M/\y.2.2.2=false/\gq s k y=1/\x=kY k y:=by
  intro x hx ht;rw [h2] at hx;obtain ⟨y,hy,rfl⟩:=bY.1 hx;by_cases c:gq s k y=1
  ·rw [if_pos c] at ht ⊢;exact .inr ⟨y,(FI k3 (show y.2.2.2=false from ht)).1 hy,ht,c,rfl⟩
  ·rw [if_neg c] at ht ⊢;exact .inl ⟨(FI k3 ht).1 hy,c⟩
 have hrz:∀y:aD,(kY k y).2.2.1=(k:Int)+1:=fun y=>by
  unfold kY Rk;rw [if_neg (by omega)]
 have HY:∀y:aD,y∈M->gq s k y=1->Con (aN M k) r y.1/\Con (aN M k) r y.2.1:=by
  intro y hy c;unfold gq at c;obtain ⟨g1,g2⟩:=hI.rg hy;split at c
  ·omega
  ·split at c
   ·rename_i h;exact ⟨(hs _ g1).1 h.1,(hs _ g2).1 h.2⟩
   ·omega
 refine ⟨by rw [mM];exact hI.gr,?_,hI.nc.sub fun f hf=>(arQ 0 f (by omega)).1 hf,fun h=>hI.dis (h.mono fun f hf=>(arQ 0 f (by omega)).1 hf),?_,?_,?_,?_⟩
 ·intro x hx;rw [h2] at hx;obtain ⟨y,hy,rfl⟩:=bY.1 hx;by_cases c:gq s k y=1
  ·rw [if_pos c,hrz];omega
  ·rw [if_neg c];exact ayu k3 hI.lv (by omega) y hy
 ·intro x hx ht lV;rcases arR x hx ht with ⟨V9,c⟩|⟨y,hy,hty,c,rfl⟩
  ·by_cases hk:x.2.2.1=k
   ·-- off the lesser side
    have hp:s x.1=false/\s x.2.1=false:=by
     have BC:=eF x ((FI k3 ht).2 V9);unfold gq at c BC;split at c
     ·rename_i h;rcases h with h|h|h
      ·rw [ht] at h;cases h
      ·exact absurd hk h
      ·exact h
     ·rename_i h;rw [if_neg h] at BC;split at c
      ·exact absurd rfl c
      ·rename_i h';rw [if_neg h'] at BC;exact absurd rfl BC
    obtain ⟨g1,g2⟩:=hI.rg V9;have n1:¬Con (aN M k) r x.1:=fun h=>by
     have:=(hs _ g1).2 h;rw [hp.1] at this;cases this
    have n2:¬Con (aN M k) r x.2.1:=fun h=>by
     have:=(hs _ g2).2 h;rw [hp.2] at this;cases this
    have:=hI.lo x V9 ht (by omega);rw [hk] at this ⊢;rcases (S9 bu).1 this with h|⟨h,_⟩|⟨_,h⟩
    ·exact h.mono fun f hf=>nk k f hf
    ·exact absurd h.symm n1
    ·exact absurd h n2
   ·exact (hI.hi x V9 ht (by omega)).mono fun f hf=>nk _ f hf
  ·rw [hrz];obtain ⟨c1,c2⟩:=HY y hy c;have u1:=agG hI k3 ha hb bu rH hs c1;have u2:=agG hI k3 ha hb bu rH hs c2;exact (u1.symm.trans u2).mono fun f hf=>(hB _ f).2 hf
 ·intro x hx ht lV;rcases arR x hx ht with ⟨V9,c⟩|⟨y,hy,hty,c,rfl⟩
  ·refine (hI.lo x V9 ht (by omega)).mono fun f hf => ?_
   rcases bJ.1 hf with h|h
   ·exact jr _ (nk _ f h)
   ·exact jJ _ h
  ·rw [hrz] at lV;omega
 ·intro j j1 j4 f hf;have kF:=(hB j f).1 hf;have yU:0<=f.1/\f.1<n:=by
   have:=MV _ f kF;omega
  refine kz (o_ (fun g hg=>MV _ g ((hB _ g).1 hg)) (MV j) yU yU fun x hx=>hx.mono fun g hg=>(hB _ g).1 hg) (ayv hI k3 ha hb bu rH hs j j1 j4 f kF)
 ·intro j hj;refine kz (o_ (fun g hg => ?_) (hI.eine ha hb j) ha ha fun x hx=>hx.mono fun g hg => ?_) (hI.sz' j (by omega))
  ·rcases bJ.1 hg with h|h
   ·exact hI.ein _ g ((arQ j g (by omega)).1 h)
   ·rw [cB.1 h];exact ⟨ha.1,ha.2,hb.1,hb.2⟩
  ·rcases bJ.1 hg with h|h
   ·exact jr _ ((arQ j g (by omega)).1 h)
   ·exact jJ _ h
end
section
variable {n:Nat} {M:aa aD} {e:Ed} {k:Nat} (hI:Inv n M e (k:Int)) (k3:(k:Int)<=3) (ha:0<=e.1/\e.1<n) (hb:0<=e.2/\e.2<n)
 {r o:Int} (bu:(r=e.1/\o=e.2)\/(r=e.2/\o=e.1)) (rH:cz n (aN M k) r<=cz n (aN M k) o)
 {s:Int->Bool} (hs:∀x:Int,0<=x/\x<n->(s x=true↔Con (aN M k) r x))
include hI k3 ha hb bu rH hs
theorem awY {M2 A B:aa aD} {x:aD} (h1:M.map (f1 s k)=A++x::B) (h2:M2=(A.map fun y=>if gq s k y=1 then kY k y else y)++G_ x::B) (RA:gq s k x=2) (mM:gE M2=gE M):WOk n M2:=by
 have hr:0<=r/\r<n:=by rcases bu with ⟨rfl,rfl⟩|⟨rfl,rfl⟩<;>assumption
 have MV:=akb hI k3 ha hb bu rH hs;have RG:x.2.2.2=false/\x.2.2.1=k/\¬(s x.1=false/\s x.2.1=false)/\¬(s x.1=true/\s x.2.1=true):=by
  unfold gq at RA;split at RA
  ·omega
  ·rename_i h;split at RA
   ·omega
   ·rename_i h';simp only [not_or] at h;refine ⟨by simpa using h.1,?_,h.2.2,h'⟩;apply yV;exact h.2.1
 obtain ⟨xt,xk,xs1,xs2⟩:=RG;have V9:x∈M:=(FI k3 xt).1 (by rw [h1];exact jJ _ (dX ..));have gP:jZ n (gE M2)=true:=by rw [mM];exact hI.gr
 -- the edges of the forests
 have hC:∀(j:Int) (f:Ed),f∈aN M2 j↔f∈aN (M.map (f1 s k)) j\/(f=(x.1,x.2.1)/\j<=k):=by
  intro j f;rw [h1,h2,iO,iO];constructor
  ·rintro ⟨y',qz,ht,hl,he⟩;rcases bJ.1 qz with qz|qz
   ·obtain ⟨y,hy,rfl⟩:=bY.1 qz;by_cases c:gq s k y=1
    ·rw [if_pos c] at ht;have nH:y.2.2.2=true:=ht;unfold gq at c;rw [if_pos (.inl nH)] at c;omega
    ·rw [if_neg c] at ht hl he;exact .inl ⟨y,jr _ hy,ht,hl,he⟩
   ·rcases a_.1 qz with rfl|qz
    ·exact .inr ⟨he.symm,by rw [<-xk];exact hl⟩
    ·exact .inl ⟨y',jJ _ (dU _ qz),ht,hl,he⟩
  ·rintro (⟨y,hy,ht,hl,he⟩|⟨he,hl⟩)
   ·rcases bJ.1 hy with hy|hy
    ·refine ⟨y,jr _ (bY.2 ⟨y,hy,if_neg fun c => ?_⟩),ht,hl,he⟩;unfold gq at c;rw [if_pos (.inl ht)] at c;omega
    ·rcases a_.1 hy with rfl|hy
     ·rw [xt] at ht;cases ht
     ·exact ⟨y,jJ _ (dU _ hy),ht,hl,he⟩
   ·exact ⟨G_ x,jJ _ (dX ..),rfl,by show j<=x.2.2.1;omega,he.symm⟩
 have nk:∀(j:Int) (f:Ed),f∈aN M j->f∈aN M2 j:=fun j f h=>(hC j f).2 (.inl (au3 k3 h))
 have arR:∀y,y∈M2->y.2.2.2=false->y∈M\/∃z,z∈M/\z.2.2.2=false/\gq s k z=1/\y=kY k z:=by
  intro y hy ht;rw [h2] at hy;rcases bJ.1 hy with hy|hy
  ·obtain ⟨z,hz,rfl⟩:=bY.1 hy;by_cases c:gq s k z=1
   ·rw [if_pos c] at ht ⊢;exact .inr ⟨z,(FI k3 (show z.2.2.2=false from ht)).1 (by rw [h1];exact jr _ hz),ht,c,rfl⟩
   ·rw [if_neg c] at ht ⊢;exact .inl ((FI k3 ht).1 (by rw [h1];exact jr _ hz))
  ·rcases a_.1 hy with rfl|hy
   ·cases ht
   ·exact .inl ((FI k3 ht).1 (by rw [h1];exact jJ _ (dU _ hy)))
 have hrz:∀y:aD,(kY k y).2.2.1=(k:Int)+1:=fun y=>by
  unfold kY Rk;rw [if_neg (by omega)]
 -- the found one joins the two sides
 obtain ⟨x1r,x2r⟩:=hI.rg V9;have hlo:=hI.lo x V9 xt (by omega);rw [xk] at hlo;have akT:(Con (aN M k) x.1 r/\Con (aN M k) o x.2.1)\/(Con (aN M k) x.1 o/\Con (aN M k) r x.2.1):=by
  rcases (S9 bu).1 hlo with h|h|h
  ·exfalso;by_cases c:s x.1=true
   ·exact xs2 ⟨c,(hs _ x2r).2 (((hs _ x1r).1 c).trans h)⟩
   ·refine xs1 ⟨by simpa using c,?_⟩;cases h':s x.2.1 with
    | false=>rfl
    | true=>exact absurd ((hs _ x1r).2 (((hs _ x2r).1 h').trans h.symm)) c
  ·exact .inl h
  ·exact .inr h
 have il:∀{j:Int},j<=k->∀{u v:Int},Con (aN M k) u v->Con (aN M j) u v:=by
  intro j hj u v h;exact h.mono (vT hj)
 have uY:∀{j:Int} {u v:Int},Con (aN M j) u v->Con (aN M2 j) u v:=fun h=>h.mono fun f hf=>nk _ f hf
 have ay3:∀j:Int,j<=k->Con (aN M2 j) r o:=by
  intro j hj;have hxx:Con (aN M2 j) x.1 x.2.1:=.of ((hC j _).2 (.inr ⟨rfl,hj⟩));rcases akT with ⟨g1,g2⟩|⟨g1,g2⟩
  ·exact (uY (il hj g1)).symm.trans (hxx.trans (uY (il hj g2)).symm)
  ·exact (uY (il hj g2)).trans (hxx.symm.trans (uY (il hj g1)))
 have hrj:∀{j:Int},j<=k->∀{u v:Int},Con (aN M j++[e]) u v->Con (aN M2 j) u v:=by
  intro j hj u v h;rcases (S9 bu).1 h with h|⟨g1,g2⟩|⟨g1,g2⟩
  ·exact uY h
  ·exact (uY g1).trans ((ay3 j hj).trans (uY g2))
  ·exact (uY g1).trans ((ay3 j hj).symm.trans (uY g2))
 have hjr:∀{j:Int},j<=k->∀{u v:Int},Con (aN M2 j) u v->Con (aN M j++[e]) u v:=by
  intro j hj u v h;refine h.sub fun f hf => ?_
  rcases (hC j f).1 hf with h|⟨rfl,_⟩
  ·exact .of (jr _ ((Hg k3 (by omega)).1 h))
  ·refine hlo.mono fun g hg => ?_
   rcases bJ.1 hg with h|h
   ·exact jr _ (vT hj g h)
   ·exact jJ _ h
 refine ⟨gP,?_,?_,?_,?_⟩
 ·intro y hy;have hl1:=ayu k3 (s:=s) hI.lv (by omega);rw [h2] at hy;rcases bJ.1 hy with hy|hy
  ·obtain ⟨z,hz,rfl⟩:=bY.1 hy;by_cases c:gq s k z=1
   ·rw [if_pos c,hrz];omega
   ·rw [if_neg c];exact hl1 z (by rw [h1];exact jr _ hz)
  ·rcases a_.1 hy with rfl|hy
   ·exact hI.lv x V9
   ·exact hl1 y (by rw [h1];exact jJ _ (dU _ hy))
 ·-- no ring
  have eF:¬Con (aN M 0) x.1 x.2.1:=by
   intro h;refine hI.dis' ha hb bu 0 (by omega) ?_;rcases akT with ⟨g1,g2⟩|⟨g1,g2⟩
   ·exact (il (by omega) g1).symm.trans (h.trans (il (by omega) g2).symm)
   ·exact (il (by omega) g2).trans (h.symm.trans (il (by omega) g1))
  refine (MK hI.nc eF).sub fun f hf => ?_
  rcases (hC 0 f).1 hf with h|⟨rfl,_⟩
  ·exact jr _ ((Hg k3 (by omega)).1 h)
  ·exact jJ _ (cB.2 rfl)
 ·intro y hy ht;have axk:Con (aN M2 y.2.2.1) y.1 y.2.1:=by
   rcases arR y hy ht with hyM|⟨z,hz,hzt,c,rfl⟩
   ·by_cases hl:y.2.2.1<=k
    ·exact hrj hl (hI.lo y hyM ht hl)
    ·exact uY (hI.hi y hyM ht (by omega))
   ·rw [hrz];obtain ⟨g1,g2⟩:=hI.rg hz;have hc:s z.1=true/\s z.2.1=true:=by
     unfold gq at c;split at c
     ·omega
     ·split at c
      ·assumption
      ·omega
    have u1:=agG hI k3 ha hb bu rH hs ((hs _ g1).1 hc.1);have u2:=agG hI k3 ha hb bu rH hs ((hs _ g2).1 hc.2);exact (u1.symm.trans u2).mono fun f hf=>(hC _ f).2 (.inl hf)
  have lF:=fQ ((kr gP).1 (y.1,y.2.1) (bY.2 ⟨y,hy,rfl⟩));exact (lC gP _ ⟨lF.1,lF.2.1⟩ ⟨lF.2.2.1,lF.2.2.2.1⟩).2 axk
 ·intro j j1 j4 f hf;rw [aj_];have he2:=jE gP j;have yU:0<=f.1/\f.1<n:=by
   have:=he2 f hf;omega
  by_cases hj:(j:Int)<=k
  ·have h3:=hI.sz' j hj;by_cases hc:Con (aN M j++[e]) f.1 e.1
   ·exact kz (o_ he2 (hI.eine ha hb j) yU ha fun v hv=>hc.symm.trans (hjr hj hv)) h3
   ·have hce:∀{v:Int},Con (aN M j++[e]) f.1 v->Con (aN M j) f.1 v:=by
     intro v hv;have HZ:Con (aN M j++[e]) e.1 e.2:=.of (jJ _ (cB.2 rfl));have ik:∀{u v:Int},Con (aN M j) u v->Con (aN M j++[e]) u v:=fun h=>h.mono fun g hg=>jr _ hg
     rcases (S9 (.inl ⟨rfl,rfl⟩)).1 hv with h|⟨g1,_⟩|⟨g1,_⟩
     ·exact h
     ·exact absurd (ik g1) hc
     ·exact absurd ((ik g1).trans HZ.symm) hc
    have hfM:f∈aN M j:=by
     rcases (hC j f).1 hf with h|⟨rfl,_⟩
     ·exact (Hg k3 (by omega)).1 h
     ·exfalso;have HZ:Con (aN M j++[e]) r o:=by
       have h0:Con (aN M j++[e]) e.1 e.2:=.of (jJ _ (cB.2 rfl));rcases bu with ⟨rfl,rfl⟩|⟨rfl,rfl⟩
       ·exact h0
       ·exact h0.symm
      have ik:∀{u v:Int},Con (aN M k) u v->Con (aN M j++[e]) u v:=fun h=>(il hj h).mono fun g hg=>jr _ hg
      have Cm:Con (aN M j++[e]) x.1 r:=by
       rcases akT with ⟨g1,_⟩|⟨g1,_⟩
       ·exact ik g1
       ·exact (ik g1).trans HZ.symm
      refine hc (Cm.trans ?_);rcases bu with ⟨rfl,rfl⟩|⟨rfl,rfl⟩
      ·exact .refl _
      ·exact HZ
    exact kz (o_ he2 (hI.ein j) yU yU fun v hv=>hce (hjr hj hv)) (hI.sz j j1 j4 f hfM)
  ·have kF:f∈aN (M.map (f1 s k)) j:=by
    rcases (hC j f).1 hf with h|⟨_,h⟩
    ·exact h
    ·exact absurd h hj
   refine kz (o_ he2 (MV j) yU yU fun v hv=>hv.mono fun g hg => ?_) (ayv hI k3 ha hb bu rH hs j j1 j4 f kF);rcases (hC j g).1 hg with h|⟨_,h⟩
   ·exact h
   ·exact absurd h hj
end
theorem aAl {n:Nat} {M:aa aD} {e:Ed} {k:Nat} (hI:Inv n M e (k:Int)) (k3:(k:Int)<=3) (ha:0<=e.1/\e.1<n) (hb:0<=e.2/\e.2<n) :
  ((sch n M e k).2=none->Inv n (sch n M e k).1 e ((k:Int)-1))/\((sch n M e k).2≠none->WOk n (sch n M e k).1):=by
 have mM:=abw n M e (k:Int)
 -- the lesser side
 have bu:((if cmp n M k e.2<cmp n M k e.1 then e.2 else e.1)=e.1/\(if cmp n M k e.2<cmp n M k e.1 then e.1 else e.2)=e.2)\/((if cmp n M k e.2<cmp n M k e.1 then e.2 else e.1)=e.2/\(if cmp n M k e.2<cmp n M k e.1 then e.1 else e.2)=e.1):=by
  by_cases h:cmp n M k e.2<cmp n M k e.1
  ·rw [if_pos h,if_pos h];exact .inr ⟨rfl,rfl⟩
  ·rw [if_neg h,if_neg h];exact .inl ⟨rfl,rfl⟩
 have rH:cz n (aN M k) (if cmp n M k e.2<cmp n M k e.1 then e.2 else e.1)<=cz n (aN M k) (if cmp n M k e.2<cmp n M k e.1 then e.1 else e.2):=by
  by_cases h:cmp n M k e.2<cmp n M k e.1
  ·rw [if_pos h,if_pos h];exact Nat.le_of_lt h
  ·rw [if_neg h,if_neg h];exact Nat.le_of_not_lt h
 have hlc:(if cmp n M k e.2<cmp n M k e.1 then bA n M k e.2 else bA n M k e.1)=bA n M k (if cmp n M k e.2<cmp n M k e.1 then e.2 else e.1):=by
  by_cases h:cmp n M k e.2<cmp n M k e.1
  ·rw [if_pos h,if_pos h]
  ·rw [if_neg h,if_neg h]
 unfold sch at mM ⊢;simp only at mM ⊢;rw [hlc,Kc (Ha _ _)] at mM ⊢;generalize (if cmp n M k e.2<cmp n M k e.1 then e.2 else e.1)=r at bu rH mM ⊢;generalize (if cmp n M k e.2<cmp n M k e.1 then e.1 else e.2)=o at bu rH;have hr:0<=r/\r<n:=by rcases bu with ⟨rfl,rfl⟩|⟨rfl,rfl⟩<;>assumption
 have hs:∀x:Int,0<=x/\x<n->((fun x=>decide (bA n M k x=bA n M k r)) x=true↔Con (aN M k) r x):=by
  intro x hx;simp only [decide_eq_true_eq];rw [lC hI.gr _ hx hr];exact ⟨fun h=>h.symm,fun h=>h.symm⟩
 generalize (fun x=>decide (bA n M k x=bA n M k r))=s at hs mM ⊢;have hf1:(M.map fun y=>if lQ s k y=1 then kY k y else y)=M.map (f1 s k):=rfl;rw [hf1] at mM ⊢;simp only at mM ⊢;unfold uf at mM ⊢;by_cases bU:(M.map (f1 s k)).findIdx (fun y=>decide (gq s k y=2))<(M.map (f1 s k)).length
 ·rw [dif_pos bU] at mM ⊢;refine ⟨(fun h=>absurd h (by simp)),fun _ => ?_⟩;have h2:=XW (w:=bU);have sP:M.map (f1 s k)=(M.map (f1 s k)).take ((M.map (f1 s k)).findIdx fun y=>decide (gq s k y=2))++(M.map (f1 s k))[(M.map (f1 s k)).findIdx fun y=>decide (gq s k y=2)]::(M.map (f1 s k)).drop ((M.map (f1 s k)).findIdx (fun y=>decide (gq s k y=2))+1):=by
   conv=>lhs;rw [<-Kr ((M.map (f1 s k)).findIdx fun y=>decide (gq s k y=2)) (M.map (f1 s k)),u6 bU]
  exact awY hI k3 ha hb bu rH hs sP rfl (by simpa using h2) mM
 ·rw [dif_neg bU] at mM ⊢;refine ⟨fun _=>awX hI k3 ha hb bu rH hs rfl (fun y hy h => ?_) mM,fun h=>absurd rfl h⟩;refine bU (List.findIdx_lt_length_of_exists ⟨y,hy,by simpa using h⟩)
theorem aor {n:Nat} {e:Ed} (ha:0<=e.1/\e.1<n) (hb:0<=e.2/\e.2<n):∀(k:Nat) (M:aa aD),k<=4->Inv n M e ((k:Int)-1)->WOk n (yl n e k M).1/\gE (yl n e k M).1=gE M
 | 0,M,_,hI=>⟨hI.wok,rfl⟩
 | k+1,M,hk,hI=>by
  have FY:((k+1:Nat):Int)-1=(k:Int):=by omega
  rw [FY] at hI;obtain ⟨h1,h2⟩:=aAl hI (by omega) ha hb;unfold yl;split
  ·rename_i hn;obtain ⟨g1,g2⟩:=aor ha hb k _ (by omega) (h1 hn);exact ⟨g1,g2.trans (abw ..)⟩
  ·rename_i hn;exact ⟨h2 (by rw [hn];simp),abw ..⟩
theorem Rm (L:aa aD) (p:Ed->Bool):gE (L.filter fun y=>p (y.1,y.2.1))=(gE L).filter p:=by
 unfold gE;rw [List.filter_map];rfl
theorem au4:∀{L:aa aD},(gE L).Nodup->∀{y z:aD},y∈L->z∈L->(y.1,y.2.1)=(z.1,z.2.1)->y=z
 | [],_,y,z,hy,_,_=>by cases hy
 | x::L,hn,y,z,hy,hz,he=>by
  have hn':((x.1,x.2.1)::gE L).Nodup:=hn;rw [nP] at hn';rcases a_.1 hy with rfl|qz
  ·rcases a_.1 hz with rfl|Rw
   ·rfl
   ·exact absurd (bY.2 ⟨z,Rw,he.symm⟩) hn'.1
  ·rcases a_.1 hz with rfl|Rw
   ·exact absurd (bY.2 ⟨y,qz,he⟩) hn'.1
   ·exact au4 hn'.2 qz Rw he
def aB8:aa Ed:=(List.range 12).flatMap fun (b:Nat)=>(List.range b).map fun (a:Nat)=>((a:Int),(b:Int))
theorem awZ:aB8.length=66:=by decide
theorem Rn {n:Nat} {es:aa Ed} (h:GrOk n es):es.length<=66:=by
 rw [<-awZ];refine mI _ _ (G7 h.2.2.1) fun x hx => ?_
 have:=fQ (h.2.2.2 x hx);have dQ:=h.2.1;unfold aB8;rw [Cs];refine ⟨x.2.toNat,jg.2 (by omega),bY.2 ⟨x.1.toNat,jg.2 (by omega),?_⟩⟩;rw [jL (by omega),jL (by omega)]
theorem abA {n:Nat} {es:aa Ed} (h:GrOk n es):jZ n es=true:=by
 unfold jZ;rw [show aY (n:Int) 1 12=true from aW.2 (by have:=h.1;have:=h.2.1;omega),Q_ h (Rn h)];rfl
theorem arp {n:Nat} {es:aa Ed} (h:jZ n es=true) (h2:2<=n):GrOk n es:=by
 unfold jZ at h;rw [aU,aW] at h;obtain ⟨h3,h4,_⟩:=lw h.2;exact ⟨by omega,by omega,h4,h3⟩
theorem WOk.con {n:Nat} {L:aa aD} (hw:WOk n L) {y:aD} (hy:y∈L) (ht:y.2.2.2=false):Con (aN L y.2.2.1) y.1 y.2.1:=by
 have hr:=fQ ((kr hw.gr).1 (y.1,y.2.1) (bY.2 ⟨y,hy,rfl⟩));exact (lC hw.gr _ ⟨hr.1,hr.2.1⟩ ⟨hr.2.2.1,hr.2.2.2.1⟩).1 (hw.un y hy ht)
theorem WOk.same {n:Nat} {L:aa aD} (hw:WOk n L) (u v:Int):Con (aN L 0) u v↔Con (gE L) u v:=by
 constructor
 ·intro h;exact h.mono fun e he=>(SQ L 0).subset he
 ·intro h;refine h.sub fun e he => ?_
  obtain ⟨y,hy,rfl⟩:=bY.1 he;have hl:=(hw.lv y hy).1;cases ht:y.2.2.2 with
  | true=>exact .of (iO.2 ⟨y,hy,ht,hl,rfl⟩)
  | false=>exact (hw.con hy ht).mono (vT hl)
theorem WOk.labs {n:Nat} {L:aa aD} (hw:WOk n L):labs n (aN L 0)=labs n (gE L):=by
 have hE:o8 n (gE L):=fun e he=>by
  have:=fQ ((kr hw.gr).1 e he);exact ⟨this.1,this.2.1,this.2.2.1,this.2.2.2.1⟩
 exact (lu (jE hw.gr 0)).uniq (lu hE) hw.same
section
variable {n:Nat} {L:aa aD} (hw:WOk n L) {e:Ed}
include hw
theorem arq {old:aD} (ho:old∈L) (NR:(old.1,old.2.1)=e) :
  WOk n (if old.2.2.2=true then (yl n e (old.2.2.1.toNat+1) (L.filter fun y=>decide ((y.1,y.2.1)≠e))).1 else L.filter fun y=>decide ((y.1,y.2.1)≠e)) /\
  gE (if old.2.2.2=true then (yl n e (old.2.2.1.toNat+1) (L.filter fun y=>decide ((y.1,y.2.1)≠e))).1 else L.filter fun y=>decide ((y.1,y.2.1)≠e))=del (gE L) e:=by
 have bq:e∈gE L:=bY.2 ⟨old,ho,NR⟩;obtain ⟨mM,V8,RB⟩:=kr hw.gr;have jf:=fQ (mM e bq);have hgR:gE (L.filter fun y=>decide ((y.1,y.2.1)≠e))=del (gE L) e:=by
  rw [Rm L fun y=>decide (y≠e)];unfold del;congr 1;funext y;rw [decide_not]
 have hG:=arp hw.gr (by omega);have gP:jZ n (gE (L.filter fun y=>decide ((y.1,y.2.1)≠e)))=true:=by
  rw [hgR];exact abA hG.del
 have hm:∀y,y∈(L.filter fun y=>decide ((y.1,y.2.1)≠e))↔y∈L/\(y.1,y.2.1)≠e:=fun y=>by
  rw [jQ,decide_eq_true_eq]
 have gT:∀(j:Int) (f:Ed),f∈aN (L.filter fun y=>decide ((y.1,y.2.1)≠e)) j->f∈aN L j:=by
  intro j f hf;obtain ⟨y,hy,ht,hl,he⟩:=iO.1 hf;exact iO.2 ⟨y,((hm y).1 hy).1,ht,hl,he⟩
 have aZ:∀(j:Int) (f:Ed),f∈aN (L.filter fun y=>decide ((y.1,y.2.1)≠e)) j->f≠e:=by
  intro j f hf;obtain ⟨y,hy,ht,hl,he⟩:=iO.1 hf;rw [<-he];exact ((hm y).1 hy).2
 have arS:∀(j:Int) (f:Ed),f∈aN L j->f≠e->f∈aN (L.filter fun y=>decide ((y.1,y.2.1)≠e)) j:=by
  intro j f hf hfe;obtain ⟨y,hy,ht,hl,he⟩:=iO.1 hf;exact iO.2 ⟨y,(hm y).2 ⟨hy,by rw [he];exact hfe⟩,ht,hl,he⟩
 have mh:∀j:Int,e∈aN L j->old.2.2.2=true/\j<=old.2.2.1:=by
  intro j hf;obtain ⟨y,hy,ht,hl,he⟩:=iO.1 hf;have:=au4 V8 hy ho (he.trans NR.symm);subst this;exact ⟨ht,hl⟩
 generalize hR:(L.filter fun y=>decide ((y.1,y.2.1)≠e))=R at *
 have hnc:NoCyc (aN R 0):=hw.nc.sub fun f hf=>gT 0 f hf
 have dH:∀j:Nat,1<=j->j<=4->∀f,f∈aN R j->cz n (aN R j) f.1<=n / 2 ^ j:=by
  intro j j1 j4 f hf;have yU:=jE gP j f hf;exact kz (o_ (jE gP j) (jE hw.gr j) ⟨yU.1,yU.2.1⟩ ⟨yU.1,yU.2.1⟩ fun x hx=>hx.mono fun g hg=>gT j g hg) (hw.sz j j1 j4 f (gT j f hf))
 cases ht:old.2.2.2 with
 | false=>
  rw [if_neg (by simp)];refine ⟨⟨gP,fun x hx=>hw.lv x ((hm x).1 hx).1,hnc,fun x hx RG => ?_,dH⟩,hgR⟩;have hr:=fQ ((kr gP).1 (x.1,x.2.1) (bY.2 ⟨x,hx,rfl⟩));refine (lC gP _ ⟨hr.1,hr.2.1⟩ ⟨hr.2.2.1,hr.2.2.2.1⟩).2 ((hw.con ((hm x).1 hx).1 RG).mono fun f hf=>arS _ f hf ?_);rintro rfl;have:=(mh _ hf).1;rw [ht] at this;cases this
 | true=>
  rw [if_pos rfl];have lV:=hw.lv old ho;have arT:∀j:Int,j<=old.2.2.1->e∈aN L j:=fun j hj=>iO.2 ⟨old,ho,ht,hj,NR⟩
  have h3:old.2.2.1<=3:=by
   apply yV;intro eF;have h4:=hw.sz 4 (by omega) (by omega) e (arT _ (by omega));rw [aj_] at h4;have h5:=aB6 (jE hw.gr ((4:Nat):Int)) (v:=e.1) ⟨jf.1,jf.2.1⟩;have h6:=(zX hw.gr).2;have:n / 2 ^ 4=0:=Nat.div_eq_of_lt (by omega);omega
  have hI:Inv n R e (old.2.2.1.toNat:Int):=by
   rw [jL lV.1];refine ⟨gP,fun x hx=>hw.lv x ((hm x).1 hx).1,hnc,fun h => ?_,fun x hx RG hk => ?_,fun x hx RG hk => ?_,dH,fun j hj => ?_⟩
   ·exact hw.nc e (arT 0 lV.1) (h.mono fun f hf=>ng.2 ⟨gT 0 f hf,aZ 0 f hf⟩)
   ·refine (hw.con ((hm x).1 hx).1 RG).mono fun f hf=>arS _ f hf ?_
    rintro rfl;have:=(mh _ hf).2;omega
   ·refine (hw.con ((hm x).1 hx).1 RG).mono fun f hf => ?_
    by_cases hfe:f=e
    ·exact jJ _ (cB.2 hfe)
    ·exact jr _ (arS _ f hf hfe)
   ·have h1:cz n (aN R j++[e]) e.1<=cz n (aN L j) e.1:=by
     refine o_ (fun f hf => ?_) (jE hw.gr j) ⟨jf.1,jf.2.1⟩ ⟨jf.1,jf.2.1⟩ fun x hx=>hx.mono fun f hf => ?_
     ·rcases bJ.1 hf with h|h
      ·exact jE gP j f h
      ·rw [cB.1 h];exact ⟨jf.1,jf.2.1,jf.2.2.1,jf.2.2.2.1⟩
     ·rcases bJ.1 hf with h|h
      ·exact gT j f h
      ·rw [cB.1 h];exact arT j hj
    by_cases j0:j=0
    ·subst j0;have:=aDV n (aN R ((0:Nat):Int)++[e]) e.1;simpa using this
    ·exact kz h1 (hw.sz j (by omega) (by omega) e (arT j hj))
  have:=aor (n:=n) (e:=e) ⟨jf.1,jf.2.1⟩ ⟨jf.2.2.1,jf.2.2.2.1⟩ (old.2.2.1.toNat+1) R (by omega) (by rw [show ((old.2.2.1.toNat+1:Nat):Int)-1=(old.2.2.1.toNat:Int) from by omega];exact hI);exact ⟨this.1,this.2.trans hgR⟩
theorem au5 (he:eG n e=true) (aZ:e∉gE L) :
  WOk n (L.filter (fun y=>lsB (y.1,y.2.1) e)++[(e.1,e.2,0,!decide (bA n L 0 e.1=bA n L 0 e.2))]++L.filter (fun y=>lsB e (y.1,y.2.1))) /\
  gE (L.filter (fun y=>lsB (y.1,y.2.1) e)++[(e.1,e.2,0,!decide (bA n L 0 e.1=bA n L 0 e.2))]++L.filter (fun y=>lsB e (y.1,y.2.1)))=ins (gE L) e:=by
 have jf:=fQ he;have hG:=arp hw.gr (by omega);have hgR:gE (L.filter (fun y=>lsB (y.1,y.2.1) e)++[(e.1,e.2,0,!decide (bA n L 0 e.1=bA n L 0 e.2))]++L.filter (fun y=>lsB e (y.1,y.2.1)))=ins (gE L) e:=by
  have h1:=Rm L fun y=>lsB y e
  have h2:=Rm L fun y=>lsB e y
  unfold ins;rw [<-h1,<-h2];unfold gE;simp only [uN,bz,bM]
 have hm:∀y,y∈(L.filter (fun y=>lsB (y.1,y.2.1) e)++[(e.1,e.2,0,!decide (bA n L 0 e.1=bA n L 0 e.2))]++L.filter (fun y=>lsB e (y.1,y.2.1)))↔y=(e.1,e.2,0,!decide (bA n L 0 e.1=bA n L 0 e.2))\/y∈L:=by
  intro y;simp only [bJ,jQ,cB];constructor
  ·rintro ((h|h)|h)
   ·exact .inr h.1
   ·exact .inl h
   ·exact .inr h.1
  ·rintro (h|h)
   ·exact .inl (.inr h)
   ·cases h1:lsB (y.1,y.2.1) e with
    | true=>exact .inl (.inl ⟨h,rfl⟩)
    | false=>
     cases h2:lsB e (y.1,y.2.1) with
     | true=>exact .inr ⟨h,rfl⟩
     | false=>exact absurd (bY.2 ⟨y,h,SF h1 h2⟩) aZ
 have gP:jZ n (gE (L.filter (fun y=>lsB (y.1,y.2.1) e)++[(e.1,e.2,0,!decide (bA n L 0 e.1=bA n L 0 e.2))]++L.filter (fun y=>lsB e (y.1,y.2.1))))=true:=by
  rw [hgR];exact abA (hG.ins he)
 generalize (L.filter (fun y=>lsB (y.1,y.2.1) e)++[(e.1,e.2,0,!decide (bA n L 0 e.1=bA n L 0 e.2))]++L.filter (fun y=>lsB e (y.1,y.2.1)))=R at hgR hm gP ⊢;have qC:∀(j:Int) (f:Ed),f∈aN R j↔f∈aN L j\/(f=e/\bA n L 0 e.1≠bA n L 0 e.2/\j<=0):=by
  intro j f;rw [iO,iO];constructor
  ·rintro ⟨y,hy,ht,hl,hf⟩;rcases (hm y).1 hy with rfl|hy
   ·simp only [sV,decide_eq_false_iff_not] at ht hl hf;exact .inr ⟨hf.symm,ht,hl⟩
   ·exact .inl ⟨y,hy,ht,hl,hf⟩
  ·rintro (⟨y,hy,ht,hl,hf⟩|⟨rfl,ht,hl⟩)
   ·exact ⟨y,(hm y).2 (.inr hy),ht,hl,hf⟩
   ·exact ⟨_,(hm _).2 (.inl rfl),by simp [ht],hl,rfl⟩
 have ko:=lC hw.gr 0 (u:=e.1) (v:=e.2) ⟨jf.1,jf.2.1⟩ ⟨jf.2.2.1,jf.2.2.2.1⟩;refine ⟨⟨gP,fun x hx => ?_,?_,fun x hx RG => ?_,fun j j1 j4 f hf => ?_⟩,hgR⟩
 ·rcases (hm x).1 hx with rfl|hx
  ·simp
  ·exact hw.lv x hx
 ·by_cases hc:bA n L 0 e.1=bA n L 0 e.2
  ·refine hw.nc.sub fun f hf => ?_
   rcases (qC 0 f).1 hf with h|h
   ·exact h
   ·exact absurd hc h.2.1
  ·refine (MK hw.nc (fun h=>hc (ko.2 h))).sub fun f hf => ?_
   rcases (qC 0 f).1 hf with h|h
   ·exact jr _ h
   ·exact jJ _ (cB.2 h.1)
 ·have hr:=fQ ((kr gP).1 (x.1,x.2.1) (bY.2 ⟨x,hx,rfl⟩));refine (lC gP _ ⟨hr.1,hr.2.1⟩ ⟨hr.2.2.1,hr.2.2.2.1⟩).2 ?_;rcases (hm x).1 hx with rfl|hx
  ·simp only [Bool.not_eq_false',decide_eq_true_eq] at RG;exact (ko.1 RG).mono fun f hf=>(qC 0 f).2 (.inl hf)
  ·exact (hw.con hx RG).mono fun f hf=>(qC _ f).2 (.inl hf)
 ·have kF:f∈aN L j:=by
   rcases (qC j f).1 hf with h|h
   ·exact h
   ·have:=h.2.2;omega
  have yU:=jE gP j f hf;rw [aj_];refine kz (o_ (jE gP j) (jE hw.gr j) ⟨yU.1,yU.2.1⟩ ⟨yU.1,yU.2.1⟩ fun x hx=>hx.mono fun g hg => ?_) (hw.sz j j1 j4 f kF);rcases (qC j g).1 hg with h|h
  ·exact h
  ·have:=h.2.2;omega
end
theorem aos {n:Nat} {E:aa Ed} (h:o8 n E):sH (n:Int) (labs n E)=true:=by
 have hL:=lu h;unfold sH;rw [if_pos (by rw [dV]),if_pos];intro i hi;have hg:=aT hi;unfold lbP;rw [hg];simp only;have h1:=hL.le hg;have h2:=hL.lt hg;rw [hL.self hg,aW.2 (by omega)];simp
theorem akc {n:Nat} {L:aa aD} (hw:WOk n L) {y:Ed} (hy:y∈gE L):(WT ((n:Int),L) y).1=n/\(WT ((n:Int),L) y).2.2.2.2.2=true/\WOk n (WT ((n:Int),L) y).2.1/\gE (WT ((n:Int),L) y).2.1=del (gE L) y:=by
 have RB:=(kr hw.gr).2.2;obtain ⟨r,h1,_,_,_,h5⟩:=Rl n L y (by omega);have hr:WT ((n:Int),L) y=r:=by unfold WT;rw [h1];rfl
 rw [hr];obtain ⟨old,o1,o2,o3,o4,o5⟩:=h5 ⟨by omega,by rw [iB];exact hw,hy⟩;rw [iB] at o5;have:=arq hw o1 o2;rw [<-o5] at this;exact ⟨o3,o4,this.1,this.2⟩
theorem akd {n:Nat} {L:aa aD} (hw:WOk n L) {y:Ed} (he:eG n y=true) (hy:y∉gE L):(WA ((n:Int),L) y).1=n/\(WA ((n:Int),L) y).2.2=true/\WOk n (WA ((n:Int),L) y).2.1/\gE (WA ((n:Int),L) y).2.1=ins (gE L) y:=by
 have RB:=(kr hw.gr).2.2;obtain ⟨r,h1,_,_,_,h5⟩:=XH n L y (by omega);have hr:WA ((n:Int),L) y=r:=by unfold WA;rw [h1];rfl
 have h6:=h5 ⟨by omega,by rw [iB];exact hw,he,hy⟩;rw [iB] at h6;rw [hr,h6];exact ⟨rfl,rfl,au5 hw he hy⟩
theorem aB9 {n:Nat} {L:aa aD} (hw:WOk n L) {y:Ed} (hy:y∉gE L):(WT ((n:Int),L) y).2.2.2.2.2=false:=by
 have RB:=(kr hw.gr).2.2;obtain ⟨r,h1,_,_,h5,_⟩:=Rl n L y (by omega);have hr:WT ((n:Int),L) y=r:=by unfold WT;rw [h1];rfl
 rw [hr,h5 (fun h=>hy h.2.2)]
theorem au6 {n:Nat} {L:aa aD} (hw:WOk n L) {y:Ed} (hy:y∈gE L):(WA ((n:Int),L) y).2.2=false:=by
 have RB:=(kr hw.gr).2.2;obtain ⟨r,h1,_,_,h5,_⟩:=XH n L y (by omega);have hr:WA ((n:Int),L) y=r:=by unfold WA;rw [h1];rfl
 rw [hr,h5 (fun h=>h.2.2.2 hy)]
def Bu (v:Int) (y:Ed):Bool:=decide (y.1=v\/y.2=v)
theorem Ro {n:Nat} (v:Int):∀(es:aa Ed) (L:aa aD) (out:aa Ed),WOk n L->es.Nodup->(∀y,y∈es->y∈gE L) ->
  (es.foldl (iW v) (((n:Int),L),out)).1.1=n/\WOk n (es.foldl (iW v) (((n:Int),L),out)).1.2/\(∀x,x∈gE (es.foldl (iW v) (((n:Int),L),out)).1.2↔x∈gE L/\¬(x∈es/\Bu v x=true))/\(es.foldl (iW v) (((n:Int),L),out)).2=out++es.filter (Bu v)
 | [],L,out,hw,_,_=>by simp [hw]
 | y::es,L,out,hw,hn,bq=>by
  rw [nP] at hn;rw [gK];by_cases hc:y.1=v\/y.2=v
  ·have hs:iW v (((n:Int),L),out) y=(((WT ((n:Int),L) y).1,(WT ((n:Int),L) y).2.1),out++[y]):=by unfold iW;rw [if_pos hc]
   obtain ⟨t1,_,t3,t4⟩:=akc hw (bq y (dX ..));rw [hs,t1];obtain ⟨g1,g2,g3,g4⟩:=Ro v es (WT ((n:Int),L) y).2.1 (out++[y]) t3 hn.2 (fun z hz=>by
    rw [t4,o9]
    exact ⟨bq z (dU _ hz),by rintro rfl;exact hn.1 hz⟩)
   refine ⟨g1,g2,fun x => ?_,?_⟩
   ·rw [g3,t4,o9,a_];constructor
    ·rintro ⟨⟨h1,h2⟩,h3⟩;refine ⟨h1,?_⟩;rintro ⟨rfl|h4,h5⟩
     ·exact h2 rfl
     ·exact h3 ⟨h4,h5⟩
    ·rintro ⟨h1,h2⟩;refine ⟨⟨h1,?_⟩,fun h=>h2 ⟨.inr h.1,h.2⟩⟩;rintro rfl;exact h2 ⟨.inl rfl,by unfold Bu;rw [ak hc]⟩
   ·rw [g4,List.filter_cons_of_pos (by unfold Bu;rw [ak hc]),lW];rfl
  ·have hs:iW v (((n:Int),L),out) y=(((n:Int),L),out):=by unfold iW;rw [if_neg hc]
   rw [hs];obtain ⟨g1,g2,g3,g4⟩:=Ro v es L out hw hn.2 (fun z hz=>bq z (dU _ hz));have qC:¬Bu v y=true:=by unfold Bu;rw [aA hc];simp
   refine ⟨g1,g2,fun x => ?_,?_⟩
   ·rw [g3,a_];constructor
    ·rintro ⟨h1,h2⟩;refine ⟨h1,?_⟩;rintro ⟨rfl|h4,h5⟩
     ·exact qC h5
     ·exact h2 ⟨h4,h5⟩
    ·rintro ⟨h1,h2⟩;exact ⟨h1,fun h=>h2 ⟨.inr h.1,h.2⟩⟩
   ·rw [g4,List.filter_cons_of_neg qC]
theorem ake (v:Int):∀(es:aa Ed) (s:Wb × aa Ed),es.filter (Bu v)=[]->es.foldl (iW v) s=s
 | [],s,_=>rfl
 | y::es,s,h=>by
  have qC:¬Bu v y=true:=fun hh=>by
   rw [List.filter_cons_of_pos hh] at h
   cases h
  rw [List.filter_cons_of_neg qC] at h
  have hs:iW v s y=s:=by
   unfold iW;rw [if_neg];intro hc;exact qC (by unfold Bu;rw [ak hc])
  rw [gK,hs]
  exact ake v es s h
theorem Rp {n:Nat}:∀(es:aa Ed) (L:aa aD) (b:Bool),WOk n L->(∀y,y∈es->eG n y=true) ->
  (es.foldl jA (((n:Int),L),b)).1.1=n/\WOk n (es.foldl jA (((n:Int),L),b)).1.2/\(∀x,x∈gE (es.foldl jA (((n:Int),L),b)).1.2↔x∈gE L\/x∈es)/\(es.Nodup->(∀y,y∈es->y∉gE L)->(es.foldl jA (((n:Int),L),b)).2=b)
 | [],L,b,hw,_=>by simp [hw]
 | y::es,L,b,hw,he=>by
  rw [gK]
  have HV:∀z,z∈es->eG n z=true:=fun z hz=>he z (dU _ hz)
  by_cases hy:y∈gE L
  ·have hb:=au6 hw hy
   have hs:jA (((n:Int),L),b) y=(((n:Int),L),false):=by
    unfold jA;simp only [hb,iP,if_false,Bool.and_false]
   rw [hs]
   obtain ⟨g1,g2,g3,g4⟩:=Rp es L false hw HV
   refine ⟨g1,g2,fun x => ?_,fun _ h=>absurd hy (h y (dX ..))⟩
   rw [g3,a_]
   constructor
   ·rintro (h|h)
    ·exact .inl h
    ·exact .inr (.inr h)
   ·rintro (h|rfl|h)
    ·exact .inl h
    ·exact .inl hy
    ·exact .inr h
  ·obtain ⟨t1,t2,t3,t4⟩:=akd hw (he y (dX ..)) hy
   have hs:jA (((n:Int),L),b) y=(((n:Int),(WA ((n:Int),L) y).2.1),b):=by
    unfold jA
    simp only [t2,if_true,wL]
    rw [t1]
   rw [hs]
   obtain ⟨g1,g2,g3,g4⟩:=Rp es _ b t3 HV
   refine ⟨g1,g2,fun x => ?_,fun hn h => ?_⟩
   ·rw [g3,t4,mP,a_]
    constructor
    ·rintro ((h|h)|h)
     ·exact .inr (.inl h)
     ·exact .inl h
     ·exact .inr (.inr h)
    ·rintro (h|h|h)
     ·exact .inl (.inr h)
     ·exact .inl (.inl h)
     ·exact .inr h
   ·rw [nP] at hn
    refine g4 hn.2 fun z hz hzi => ?_
    rw [t4,mP] at hzi
    rcases hzi with rfl|hzi
    ·exact hn.1 hz
    ·exact h z (dU _ hz) hzi
structure ShR (x0:Int) (n:Nat) (L:List aD) (y:An):Prop where
 id:1<=x0/\x0<=3
 web:WOk n L
 an:blA y=true\/qc n y=true/\y.2.2.2=labs n (aN L 0)
theorem ShR.len {x0:Int} {n:Nat} {L:aa aD} {y:An} (h:ShR x0 n L y):L.length<=66/\y.2.2.1.length<=66/\y.2.2.2.length<=12/\0<=y.1/\y.1<=100000:=by
 have h1:=(kr h.web.gr).2.2;have dQ:=(zX h.web.gr).2;rcases h.an with hb|⟨ha,hl⟩
 ·unfold blA at hb;simp only [aU,sV,decide_eq_true_eq] at hb;omega
 ·unfold qc at ha;simp only [aU] at ha;have h2:=aW.1 ha.2.1;have h3:=j_ ha.2.2.1;rw [hl,dV];omega
theorem ShR.ok {x0:Int} {n:Nat} {L:aa aD} {y:An} (h:ShR x0 n L y):C9 (x0,(n:Int),L,y)=some (true,())/\CU (x0,(n:Int),L,y)=some (true,()):=by
 have hl:=h.len;obtain ⟨b,b1,b2,b3⟩:=afF x0 n L y (by omega) (by omega) (by omega);have:b=true:=b3.2 ⟨h.id,by omega,by rw [iB];exact h.web,by rw [iB];exact h.an⟩;rw [this] at b1 b2;exact ⟨b1,b2⟩
def aB_:Int × Int × aa aD × Int × Bool × aa Ed × aa Int × Int × Bool × aa Ed × aa Int × Int:=((0:Int),(0:Int),[],(0:Int),false,[],[],(0:Int),false,[],[],(1:Int))
def zZ (x0:Int) (n:Int) (L:aa aD) (y:An):Int × Int × aa aD × Int × Bool × aa Ed × aa Int × Int × Bool × aa Ed × aa Int × Int:=(x0,n,L,y.1,y.2.1,y.2.2.1,y.2.2.2,y.1,y.2.1,y.2.2.1,y.2.2.2,(0:Int))
structure Dne (n:Nat) (L L':List aD) (o:Bn) (y:An):Prop where
 num:y.1=o.1
 lab:y.2.2.2=labs n (aN L' 0)
 add:o.2.1=1\/o.2.1=4->(∀x,x∈gE L'↔x∈gE L\/x∈o.2.2.1)/\((∀z,z∈o.2.2.1->z∉gE L)->y.2.1=true)/\y.2.2.1=[]/\∀e,o.2.2.1=[e]->y.2.1 = !decide (e∈gE L)
 take:o.2.1=2->∃e,o.2.2.1=[e]/\gE L'=del (gE L) e/\y.2.1=decide (e∈gE L)/\y.2.2.1=[]
 rel:o.2.1=3->(∀x,x∈gE L'↔x∈gE L/\Bu o.2.2.2 x=false)/\y.2.1=true/\y.2.2.1=(gE L).filter (Bu o.2.2.2)/\(y.2.2.1=[]->L'=L)
theorem ars {x0 : Int} {n : Nat} {L : aa aD} {y : An} (h : ShR x0 n L y) (o : Bn) (ho : o.2.2.1.length ≤ 1048576) :
    (oZ ((x0, (n : Int), L, y), o) = some (aB_, ()) ∧ nK ((x0, (n : Int), L, y), o) = some (aB_, ()) ∧ (qb n o = false ∨ (o.1 ≠ y.1 ∧ o.1 ≠ y.1 + 1))) ∨
    (oZ ((x0, (n : Int), L, y), o) = some (zZ x0 n L y, ()) ∧ nK ((x0, (n : Int), L, y), o) = some (zZ x0 n L y, ()) ∧ qb n o = true ∧ o.1 = y.1) ∨
    (qb n o = true ∧ o.1 = y.1 + 1 ∧ ∃ (L' : aa aD) (z : An), oZ ((x0, (n : Int), L, y), o) = some (zZ x0 n L' z, ()) ∧ nK ((x0, (n : Int), L, y), o) = some (zZ x0 n L' z, ()) ∧ ShR x0 n L' z ∧ Dne n L L' o z) := by
  obtain ⟨b1, b2⟩ := h.ok;obtain ⟨hL, h1, h2, hy0, Rt⟩ := h.len;have hO1 := MB n o ho;have hO2 := Mx n o ho;have hg := h.web.gr;have aGw := zX hg;have e1 := an9 BIG (x0, (n : Int), L, y) o;have e2 := anL BIG (x0, (n : Int), L, y) o;have f1 : SC BIG ((x0, (n : Int), L, y), o) = oZ ((x0, (n : Int), L, y), o) := rfl;have f2 : Sz BIG ((x0, (n : Int), L, y), o) = nK ((x0, (n : Int), L, y), o) := rfl;rw [f1] at e1;rw [f2] at e2;rw [b1, ae] at e1;rw [b2, ae] at e2;simp only [bC, ax, hO1, hO2, ae] at e1 e2;cases hob : qb n o with
  | false =>
    rw [hob] at e1 e2;exact .inl ⟨e1, e2, .inl rfl⟩
  | true =>
    rw [hob] at e1 e2;simp only [bC, ax] at e1 e2;by_cases hn : o.1 = y.1
    · rw [ak hn, ym x0 n L y (by omega) (by omega) (by omega), qo y (by omega) (by omega)] at e1
      rw [ak hn, yn x0 n L y (by omega) (by omega) (by omega), ni y (by omega) (by omega)] at e2
      exact .inr (.inl ⟨e1, e2, rfl, hn⟩)
    · rw [aA hn, wr (n := y.1 + 1) (by omega) (by omega)] at e1 e2
      simp only [ib, ai, ae, ax] at e1 e2
      by_cases hw : o.1 = y.1 + 1
      case neg =>
        rw [aA hw] at e1 e2;exact .inl ⟨e1, e2, .inr ⟨hn, hw⟩⟩
      rw [ak hw] at e1 e2
      simp only [bC, ax] at e1 e2
      rw [ym x0 n L y (by omega) (by omega) (by omega), ae] at e1
      simp only at e1
      refine .inr (.inr ⟨rfl, hw, ?_⟩)
      -- what follows every change
      have tail : ∀ (M : aa aD) (ok : Bool) (es : aa Ed) (p : ah ((Int × Int × aa aD × An) × An)) (q : ah ((Int × aa aD) × An)), p = some ((x0, (n : Int), M, y), (o.1, ok, es, [])) → q = some (((n : Int), M), (o.1, ok, es, [])) → WOk n M → mG n es = true →
          (Option.bind p fun x11 =>
  Option.bind (mY (x11.1.2.1, x11.1.2.2.1)) fun r12 =>
  Option.bind (lL (x11.2.1, x11.2.2.1, x11.2.2.2.1, r12.1)) fun r13 =>
  some ((x11.1.1, x11.1.2.1, x11.1.2.2.1, r13.1.1, r13.1.2.1, r13.1.2.2.1, r13.1.2.2.2, x11.2.1, x11.2.2.1, x11.2.2.2.1, r12.1, (0 : Int)), ())) = some (zZ x0 n M (o.1, ok, es, labs n (aN M 0)), ()) ∧ (Option.bind q fun x32 =>
  Option.bind (mX x32.1) fun r33 =>
  Option.bind (p8 (x0, x32.1.1, x32.1.2, x32.2.1, x32.2.2.1, x32.2.2.2.1, r33.1)) fun r34 =>
  Option.bind (jD (x32.2.1, x32.2.2.1, x32.2.2.2.1, r33.1)) fun r35 =>
  some ((r34.1.1, r34.1.2.1, r34.1.2.2.1, r34.1.2.2.2.1, r34.1.2.2.2.2.1, r34.1.2.2.2.2.2.1, r34.1.2.2.2.2.2.2, r35.1.1, r35.1.2.1, r35.1.2.2.1, r35.1.2.2.2, (0 : Int)), ())) = some (zZ x0 n M (o.1, ok, es, labs n (aN M 0)), ()) ∧ ShR x0 n M (o.1, ok, es, labs n (aN M 0)) := by
        intro M ok es p q hp hq hM qB;have hM6 := (kr hM.gr).2.2;have aIB := j_ qB;have hll := dV n (aN M 0);obtain ⟨V, v1, v2, _⟩ := FE n M (by omega);obtain ⟨V', v1', v2', _⟩ := FH n M (by omega);rw [v2 hM] at v1;rw [v2' hM] at v1';have i1 := qo (o.1, ok, es, labs n (aN M 0)) (by simp only; omega) (by simp only; omega);have i2 := yn x0 n M (o.1, ok, es, labs n (aN M 0)) (by omega) (by simp only; omega) (by simp only; omega);have i3 := ni (o.1, ok, es, labs n (aN M 0)) (by simp only; omega) (by simp only; omega);subst hp hq;simp only [ae, v1, v1', i1, i2, i3];refine ⟨rfl, rfl, h.id, hM, .inr ⟨?_, rfl⟩⟩;unfold qc;unfold qb at hob;simp only [aU] at hob ⊢;exact ⟨hob.1, hob.2.1, qB, aos (jE hM.gr 0)⟩
      have XQ := hob
      unfold qb at XQ
      simp only [aU] at XQ
      obtain ⟨d1, _, d3, d4, d5⟩ := XQ
      have d3' := aW.1 d3
      have hol := j_ d4
      have e0 : mG (n : Int) [] = true := by
        unfold mG;rw [if_pos (fun i hi => absurd hi (by simp))];rfl
      obtain ⟨mM, V8, _⟩ := kr hg
      have akR : uG (gE L) := by
        have h := hg;unfold jZ at h;rw [aU] at h;exact (lw h.2).2.1
      by_cases c2' : o.2.1 = 2
      · rw [if_neg (by omega), if_neg (by omega)] at d5
        simp only [aU, decide_eq_true_eq] at d5
        obtain ⟨e, he⟩ := List.length_eq_one_iff.1 d5.1
        obtain ⟨t1, t2, t3⟩ := abx (W := ((n : Int), L)) e (by simp only; omega)
        rw [ak c2', he] at e1
        rw [ak c2', aA (show ¬ o.2.1 = 1 from by omega), aA (show ¬ o.2.1 = 4 from by omega), he] at e2
        by_cases bq : e ∈ gE L
        · obtain ⟨k1, k2, k3, k4⟩ := akc h.web bq
          obtain ⟨g1, g2, g3⟩ := tail (WT ((n : Int), L) e).2.1 true [] (Option.bind (jX (((n : Int), L), e)) fun r7 => Option.bind (bif r7.1.2.2.2.2.2 then some (x0, r7.1.1, r7.1.2.1, y) else some (x0, (n : Int), L, y)) fun x8 => some (x8, (o.1, r7.1.2.2.2.2.2, [], []))) (Option.bind (kS (((n : Int), L), e)) fun r16 => Option.bind (bif r16.1.2.2.2.2.2 then some (r16.1.1, r16.1.2.1) else some ((n : Int), L)) fun x17 => some (x17, (o.1, r16.1.2.2.2.2.2, [], [])))
            (by rw [t1, ae, k2, ai, ae, k1]) (by rw [t2, ae, k2, ai, ae, k1]) k3 e0
          refine ⟨_, _, e1.trans g1, e2.trans g2, g3, rfl, rfl, fun hc => by omega, fun _ => ⟨e, he, k4, by rw [ak bq], rfl⟩, fun hc => by omega⟩
        · have k2 := aB9 h.web bq
          obtain ⟨g1, g2, g3⟩ := tail L false [] (Option.bind (jX (((n : Int), L), e)) fun r7 => Option.bind (bif r7.1.2.2.2.2.2 then some (x0, r7.1.1, r7.1.2.1, y) else some (x0, (n : Int), L, y)) fun x8 => some (x8, (o.1, r7.1.2.2.2.2.2, [], []))) (Option.bind (kS (((n : Int), L), e)) fun r16 => Option.bind (bif r16.1.2.2.2.2.2 then some (r16.1.1, r16.1.2.1) else some ((n : Int), L)) fun x17 => some (x17, (o.1, r16.1.2.2.2.2.2, [], [])))
            (by rw [t1, ae, k2, ax, ae]) (by rw [t2, ae, k2, ax, ae]) h.web e0
          refine ⟨_, _, e1.trans g1, e2.trans g2, g3, rfl, rfl, fun hc => by omega, fun _ => ⟨e, he, ?_, by rw [aA bq], rfl⟩, fun hc => by omega⟩
          unfold del
          rw [List.filter_eq_self.2]
          intro z hz
          rw [sV, decide_eq_false_iff_not]
          rintro rfl
          exact bq hz
      · by_cases c3' : o.2.1 = 3
        · rw [aA c2', ak c3', ax, ai] at e1
          rw [aA c2', ak c3', aA (show ¬ o.2.1 = 1 from by omega), aA (show ¬ o.2.1 = 4 from by omega), ax, ae, ax, ax, ai, yc n L (by omega), ae] at e2
          have hgl : (gE L).length = L.length := by unfold gE; rw [dY]
          have r1 := afH x0 n L y (by omega) o.2.2.2
          have r2 := aby n L (by omega) o.2.2.2 o.1 (gE L) (by omega)
          obtain ⟨k1, k2, k3, k4⟩ := Ro o.2.2.2 (gE L) L [] h.web V8 (fun _ hz => hz)
          have hfe : mG (n : Int) ((gE L).filter (Bu o.2.2.2)) = true := by
            by_cases hn2 : 2 ≤ n
            · have hG := arp hg hn2
              exact Q_ ⟨hG.1, hG.2.1, akR.filter _, fun z hz => mM z (jQ.1 hz).1⟩ (by
                have := qX (Bu o.2.2.2) (gE L)
                omega)
            · have : gE L = [] := by
                cases aGx : gE L with
                | nil => rfl
                | cons z zs =>
                  have := fQ (mM z (by rw [aGx]; exact dX ..));omega
              rw [this]
              exact e0
          obtain ⟨g1, g2, g3⟩ := tail ((gE L).foldl (iW o.2.2.2) (((n : Int), L), [])).1.2 true ((gE L).filter (Bu o.2.2.2)) (Option.bind (p9 ((x0, (n : Int), L, y), o.2.2.2)) fun r9 => some (r9.2, (o.1, true, r9.1, []))) (some (((gE L).foldl (iW o.2.2.2) (((n : Int), L), [])).1, (o.1, true, ((gE L).foldl (iW o.2.2.2) (((n : Int), L), [])).2, [])))
            (by rw [r1, ae, k1, k4]; rfl) (by rw [k4, gX]; congr 2; exact Prod.ext k1 rfl) k2 hfe
          refine ⟨_, _, e1.trans g1, e2.trans ((congrArg (fun q => Option.bind q _) r2).trans g2), g3, rfl, rfl, fun hc => by omega, fun hc => by omega, fun _ => ⟨fun x => ?_, rfl, rfl, fun aGy => ?_⟩⟩
          · rw [k3]
            constructor
            · rintro ⟨p1, p2⟩
              refine ⟨p1, ?_⟩
              cases hc : Bu o.2.2.2 x with
              | false => rfl
              | true => exact absurd ⟨p1, hc⟩ p2
            · rintro ⟨p1, p2⟩
              exact ⟨p1, fun hc => by rw [p2] at hc; cases hc.2⟩
          · have := ake o.2.2.2 (gE L) (((n : Int), L), []) aGy
            rw [this]
        · rw [aA c2', aA c3', ax, ax] at e1
          rw [aA c2', aA c3'] at e2
          have r1 := aj5 x0 n L y (by omega) o.2.2.1 (by omega)
          have r2 := afI n L (by omega) o.1 o.2.2.1 (by omega)
          have hc : (bif decide (o.2.1 = (1 : Int)) then some true else some (decide (o.2.1 = (4 : Int))) : ah Bool) = some true := by
            by_cases h : o.2.1 = 1
            · rw [ak h]; rfl
            · rw [aA h, ak (show o.2.1 = 4 from by omega)]; rfl
          rw [hc, ae, ai] at e2
          have HZ := (lw d4)
          obtain ⟨k1, k2, k3, k4⟩ := Rp o.2.2.1 L true h.web HZ.1
          obtain ⟨g1, g2, g3⟩ := tail (o.2.2.1.foldl jA (((n : Int), L), true)).1.2 (o.2.2.1.foldl jA (((n : Int), L), true)).2 [] (Option.bind (rF ((x0, (n : Int), L, y), o.2.2.1)) fun r10 => some (r10.2, (o.1, r10.1, [], []))) (some ((o.2.2.1.foldl jA (((n : Int), L), true)).1, (o.1, (o.2.2.1.foldl jA (((n : Int), L), true)).2, [], [])))
            (by rw [r1, ae, k1]) (by congr 2; exact Prod.ext k1 rfl) k2 e0
          refine ⟨_, _, e1.trans g1, e2.trans ((congrArg (fun q => Option.bind q _) r2).trans g2), g3, rfl, rfl, fun _ => ⟨k3, fun hz => k4 (G7 HZ.2.1) hz, rfl, fun e he => ?_⟩, fun hc => by omega, fun hc => by omega⟩
          show (o.2.2.1.foldl jA (((n : Int), L), true)).2 = _
          rw [he]
          show (jA (((n : Int), L), true) e).2 = _
          unfold jA
          by_cases bq : e ∈ gE L
          · rw [ak bq]
            simp only [au6 h.web bq, Bool.and_false, bC]
          · rw [aA bq]
            simp only [(akd h.web (HZ.1 e (by rw [he]; exact cB.2 rfl)) bq).2.1, wM, ib]
theorem aAm {n:Nat} (h1:1<=n) (h2:n<=12):WOk n []:=
 ⟨by
  unfold jZ
  rw [aW.2 (by omega),dZ]
  unfold mG
  rw [if_pos (fun i hi=>absurd hi (by simp [gE]))]
  rfl,fun x hx=>(by cases hx),fun e he=>(by cases he),fun x hx=>(by cases hx),fun k _ _ e he=>(by cases he)⟩
theorem aCa {n:Nat} {x0:Int} (h0:1<=x0/\x0<=3) (h1:1<=n) (h2:n<=12):ShR x0 n [] (0,false,[],[]):=⟨h0,aAm h1 h2,.inl rfl⟩
theorem au7 (l:aa Sd) (x:Sd) (k:Int):sA (l++[x]) k=if 0<=sA l k then sA l k else if x.1=k then (l.length:Int) else -1:=by
 unfold sA;rw [List.findIdx_append,dR];by_cases h:l.findIdx (fun y=>decide (y.1=k))<l.length
 ·have h':l.findIdx (fun y=>decide (y.1=k))<l.length+[x].length:=by omega
  simp only [if_pos h,if_pos h'];rw [if_pos (by omega)]
 ·simp only [if_neg h];rw [if_neg (show ¬(0:Int)<=-1 from by decide)];by_cases hx:x.1=k
  ·have h0:[x].findIdx (fun y=>decide (y.1=k))=0:=by simp [List.findIdx_cons,hx]
   rw [h0,if_pos hx,if_pos (by simp only [bI,bS];omega)];omega
  ·have h0:[x].findIdx (fun y=>decide (y.1=k))=1:=by simp [List.findIdx_cons,hx]
   rw [h0,if_neg hx,if_neg (by simp only [bI,bS];omega)]
theorem aot {l:aa Sd} {i op a b v:Int} (h:yP l) (hi:sA l i<0) (hv:1<=v/\v<=3):yP (l++[(i,i,op,a,b,v)]):=by
 intro j hj;rw [dR] at hj;simp only [bI,bS] at hj;unfold p4 p4c;by_cases uK:j<l.length
 ·have h1:=h j uK;unfold p4 p4c at h1;have hg:(l++[(i,i,op,a,b,v)]).getD j (0,0,0,0,0,0)=l.getD j (0,0,0,0,0,0):=by
   rw [dw,dw,rQ uK]
  rw [hg];simp only [aU,decide_eq_true_eq] at h1 ⊢;refine ⟨h1.1,h1.2.1,?_⟩;rw [au7,if_pos (by omega)];exact h1.2.2
 ·have aGz:j=l.length:=by omega
  subst aGz;have hg:(l++[(i,i,op,a,b,v)]).getD l.length (0,0,0,0,0,0)=(i,i,op,a,b,v):=by
   rw [dw,uZ (eY _),Nat.sub_self];rfl
  rw [hg];simp only [aU,decide_eq_true_eq];refine ⟨trivial,aW.2 hv,?_⟩;rw [au7,if_neg (by omega),if_pos rfl]
theorem FJ {α:Type} (l:aa α) (i j:Nat) (x d:α) (hi:i<l.length):(l.set i x).getD j d=if j=i then x else l.getD j d:=by
 rw [dw,dw,Cr];by_cases h:i=j
 ·subst h;rw [if_pos rfl,if_pos hi,if_pos rfl];rfl
 ·rw [if_neg h,if_neg (fun h'=>h h'.symm)]
abbrev Bv:=List aD × An
structure Ply (n:Nat) (own:List Int) (cuts:List Ed) (lab:List (List Int)) (nums:List Int) (said:List Sd) (ss:List Bv) (g:List Ed) (c:Nat):Prop where
 n2:2<=n/\n<=12
 k:1<=ss.length/\ss.length<=3/\lab.length=ss.length/\nums.length=ss.length
 owr:own.length=n/\∀v:Int,0<=v/\v<n->1<=own.getD v.toNat 0/\own.getD v.toNat 0<=ss.length
 cgr:GrOk n cuts
 cut:∀e,e∈cuts->own.getD e.1.toNat 0≠own.getD e.2.toNat 0
 sh:∀(j:Nat) (L:List aD) (y:An),ss[j]?=some (L,y)->ShR ((j:Int)+1) n L y/\nums.getD j 0=y.1/\y.1<=c/\lab.getD j []=labs n (gE L)/\∀e,e∈gE L->own.getD e.1.toNat 0=(j:Int)+1/\own.getD e.2.toNat 0=(j:Int)+1
 gr:GrOk n g
 gin:∀e,e∈g↔e∈cuts\/∃(j:Nat) (L:List aD) (y:An),ss[j]?=some (L,y)/\e∈gE L
 sdo:yP said/\said.length<=c
section
variable {n:Nat} {own:aa Int} {cuts:aa Ed} {lab:aa (aa Int)} {nums:aa Int} {said:aa Sd} {ss:aa Bv} {g:aa Ed} {c:Nat}
theorem Ply.at (h:Ply n own cuts lab nums said ss g c) {s:Int} (h1:1<=s/\s<=ss.length):∃L y,ss[(s-1).toNat]?=some (L,y):=by
 have hl:(s-1).toNat<ss.length:=by omega
 exact ⟨_,_,aT hl⟩
theorem S_ {x0:Int} {L:aa aD} {y:An} (h:ShR x0 n L y):o8 n (gE L):=fun e he=>by
 have:=fQ ((kr h.web.gr).1 e he)
 exact ⟨this.1,this.2.1,this.2.2.1,this.2.2.2.1⟩
theorem Ply.hd (h:Ply n own cuts lab nums said ss g c) (hc:c<=80) {t:Bool} (ht:t=true):uH n own cuts lab nums said t=true:=by
 obtain ⟨k1,k2,k3,k4⟩:=h.k;have hn:=h.n2;unfold uH;rw [decide_eq_true_eq];refine ⟨⟨aW.2 (by omega),aW.2 (by omega),by omega⟩,fun i hi => ?_,⟨by rw [h.owr.1],Q_ h.cgr (Rn h.cgr)⟩,fun i hi => ?_,fun i hi => ?_,⟨h.sdo.1,by have:=h.sdo.2;omega⟩,ht⟩
 ·have hl:i<ss.length:=by omega
  obtain ⟨s1,s2,s3,s4,_⟩:=h.sh i _ _ (aT hl);have h0:=s1.len.2.2.2.1;unfold p3;rw [s4,s2,aos (S_ s1),aW.2 (by omega)];rfl
 ·rw [h.owr.1] at hi;have:=h.owr.2 (i:Int) (by omega);rw [iB] at this;unfold p1;exact aW.2 (by omega)
 ·unfold p2;have e:cuts.getD i (0,0)=cuts[i]:=by rw [dw,aT hi];rfl
  rw [e,aA (h.cut _ (nM hi))];rfl
theorem Ply.one (h:Ply n own cuts lab nums said ss g c) {e:Ed} {s:Int} (h1:own.getD e.1.toNat 0=s) (h2:own.getD e.2.toNat 0=s) {L:aa aD} {y:An} (hs:ss[(s-1).toNat]?=some (L,y)) (s1:1<=s):e∈g↔e∈gE L:=by
 rw [h.gin];constructor
 ·rintro (hc|⟨j,L',y',hj,he⟩)
  ·exact absurd (h1.trans h2.symm) (h.cut e hc)
  ·have:=(h.sh j L' y' hj).2.2.2.2 e he;have uh:j=(s-1).toNat:=by omega
   subst uh;rw [hs] at hj;cases hj;exact he
 ·intro he;exact .inr ⟨_,_,_,hs,he⟩
theorem Ply.two (h:Ply n own cuts lab nums said ss g c) {e:Ed} (h1:own.getD e.1.toNat 0≠own.getD e.2.toNat 0):e∈g↔e∈cuts:=by
 rw [h.gin];constructor
 ·rintro (hc|⟨j,L',y',hj,he⟩)
  ·exact hc
  ·have:=(h.sh j L' y' hj).2.2.2.2 e he;exact absurd (this.1.trans this.2.symm) h1
 ·exact .inl
theorem Ply.onw (h:Ply n own cuts lab nums said ss g c) {said':aa Sd} (hs:yP said'/\said'.length<=c+1):Ply n own cuts lab nums said' ss g (c+1):=
 ⟨h.n2,h.k,h.owr,h.cgr,h.cut,fun j L y hj=>by
  obtain ⟨s1,s2,s3,s4,s5⟩:=h.sh j L y hj
  exact ⟨s1,s2,by omega,s4,s5⟩,h.gr,h.gin,hs⟩
theorem Ply.upd (h:Ply n own cuts lab nums said ss g c) {s:Int} (kK:1<=s) {L L':aa aD} {y z:An} (hs:ss[(s-1).toNat]?=some (L,y)) (hR:ShR s n L' z) (hz:z.1=y.1+1) (hl:z.2.2.2=labs n (gE L'))
  {own':aa Int} (ho:own'.length=n/\∀v:Int,0<=v/\v<n->1<=own'.getD v.toNat 0/\own'.getD v.toNat 0<=ss.length) {cuts':aa Ed} (hc:GrOk n cuts') (aGA:∀e,e∈cuts'->own'.getD e.1.toNat 0≠own'.getD e.2.toNat 0)
  (hL:∀e,e∈gE L'->own'.getD e.1.toNat 0=s/\own'.getD e.2.toNat 0=s)
  (XR:∀(j:Nat) (M:aa aD) (w:An),j≠(s-1).toNat->ss[j]?=some (M,w)->∀e,e∈gE M->own'.getD e.1.toNat 0=(j:Int)+1/\own'.getD e.2.toNat 0=(j:Int)+1)
  {g':aa Ed} (gP:GrOk n g') (hg:∀e,e∈g'↔e∈cuts'\/e∈gE L'\/∃(j:Nat) (M:aa aD) (w:An),j≠(s-1).toNat/\ss[j]?=some (M,w)/\e∈gE M)
  {said':aa Sd} (ui:yP said'/\said'.length<=c+1) :
  Ply n own' cuts' (lab.set (s-1).toNat z.2.2.2) (nums.set (s-1).toNat z.1) said' (ss.set (s-1).toNat (L',z)) g' (c+1):=by
 obtain ⟨k1,k2,k3,k4⟩:=h.k;have bU:=(bf hs).1;refine ⟨h.n2,by simp only [lX];omega,by rw [lX];exact ho,hc,aGA,fun j M w hj => ?_,gP,fun e => ?_,ui⟩
 ·rw [Cr] at hj;by_cases uh:(s-1).toNat=j
  ·subst uh;rw [if_pos rfl,if_pos bU] at hj;cases hj;have he:(((s-1).toNat:Nat):Int)+1=s:=by omega
   rw [he,FJ _ _ _ _ _ (by omega),FJ _ _ _ _ _ (by omega),if_pos rfl,if_pos rfl];have:=(h.sh _ _ _ hs).2.2.1;exact ⟨hR,rfl,by omega,hl,hL⟩
  ·rw [if_neg uh] at hj;rw [FJ _ _ _ _ _ (by omega),FJ _ _ _ _ _ (by omega),if_neg (fun h=>uh h.symm),if_neg (fun h=>uh h.symm)];obtain ⟨s1,s2,s3,s4,s5⟩:=h.sh j M w hj;exact ⟨s1,s2,by omega,s4,XR j M w (fun h=>uh h.symm) hj⟩
 ·rw [hg];constructor
  ·rintro (h1|h1|⟨j,M,w,hj,hm,he⟩)
   ·exact .inl h1
   ·exact .inr ⟨(s-1).toNat,L',z,by rw [Cr,if_pos rfl,if_pos bU],h1⟩
   ·exact .inr ⟨j,M,w,by rw [Cr,if_neg (fun h=>hj h.symm)];exact hm,he⟩
  ·rintro (h1|⟨j,M,w,hj,he⟩)
   ·exact .inl h1
   ·rw [Cr] at hj;by_cases uh:(s-1).toNat=j
    ·rw [if_pos uh,if_pos bU] at hj;cases hj;exact .inr (.inl he)
    ·rw [if_neg uh] at hj;exact .inr (.inr ⟨j,M,w,fun h=>uh h.symm,hj,he⟩)
end
inductive Pnd (n:Nat) (own:List Int) (cuts:List Ed) (lab:List (List Int)) (nums:List Int) (said:List Sd) (ss:List Bv) (g:List Ed) (c:Nat):Int->Int->Int->Int->Int->Int->Int->List Ed->Int->Prop
 | idle (h:Ply n own cuts lab nums said ss g c):Pnd n own cuts lab nums said ss g c 0 0 0 0 0 0 0 [] 0
 | chg {i op a b:Int} (h:Ply n own cuts lab nums said ss g c) (hi:aY i 1 100000=true) (hs:sA said i<0) (ho:op=1\/op=2) (ha:0<=a/\a<n) (hb:0<=b/\b<n) (d_:a≠b) (hw:own.getD a.toNat 0=own.getD b.toNat 0) :
   Pnd n own cuts lab nums said ss g c i op a b (own.getD a.toNat 0) (nums.getD (own.getD a.toNat 0-1).toNat 0+1) op [gJ a b] 0
 | rel {i a b:Int} (h:Ply n own cuts lab nums said ss g c) (hi:aY i 1 100000=true) (hs:sA said i<0) (ha:0<=a/\a<n) (hb:1<=b/\b<=ss.length) (hw:own.getD a.toNat 0≠b) :
   Pnd n own cuts lab nums said ss g c i 4 a b (own.getD a.toNat 0) (nums.getD (own.getD a.toNat 0-1).toNat 0+1) 3 [] a
 | acc {i a b:Int} {es g':List Ed} (h:Ply n own cuts lab nums said ss g' c) (hi:aY i 1 100000=true) (hs:sA said i<0) (ha:0<=a/\a<n) (hb:1<=b/\b<=ss.length) (qB:GrOk n es/\es≠[]) (bq:∀e,e∈es->own.getD e.1.toNat 0=b/\own.getD e.2.toNat 0=b/\e∉g') (gP:GrOk n g) (hg:∀e,e∈g↔e∈g'\/e∈es) :
   Pnd n own cuts lab nums said ss g c i 4 a b b (nums.getD (b-1).toNat 0+1) 4 es 0
section
variable {n:Nat} {own:aa Int} {cuts:aa Ed} {lab:aa (aa Int)} {nums:aa Int} {said:aa Sd} {ss:aa Bv} {g:aa Ed} {c:Nat} {x5 x6 x7 x8 x9 x10 x11:Int} {x12:aa Ed} {x13:Int}
theorem Pnd.ply (h:Pnd n own cuts lab nums said ss g c x5 x6 x7 x8 x9 x10 x11 x12 x13):∃g',Ply n own cuts lab nums said ss g' c:=by
 cases h with
 | idle h=>exact ⟨_,h⟩
 | chg h=>exact ⟨_,h⟩
 | rel h=>exact ⟨_,h⟩
 | acc h=>exact ⟨_,h⟩
theorem akf {o:Bn} (hn:2<=n/\n<=12) (h1:1<=o.1/\o.1<=100000) (h2:(o.2.1=1\/o.2.1=2)/\o.2.2.1.length=1/\o.2.2.2=0\/o.2.1=3/\o.2.2.1=[]/\(0<=o.2.2.2/\o.2.2.2<n)\/o.2.1=4/\o.2.2.1≠[]/\o.2.2.2=0) (hg:GrOk n o.2.2.1):qb n o=true:=by
 unfold qb;rw [aW.2 (by omega),aW.2 h1,aW.2 (by omega),Q_ hg (Rn hg)];rcases h2 with ⟨h2,h3,h4⟩|⟨h2,h3,h4⟩|⟨h2,h3,h4⟩
 ·rw [if_neg (by omega),if_neg (by omega),ak h3,ak h4];rfl
 ·rw [if_pos h2,ak (by rw [h3];rfl),aW.2 (by omega)];rfl
 ·rw [if_neg (by omega),if_pos h2,ak (List.length_pos_iff.2 h3),ak h4];rfl
theorem Rq {a b:Int} (hn:2<=n/\n<=12) (ha:0<=a/\a<n) (hb:0<=b/\b<n) (d_:a≠b):eG n (gJ a b)=true:=by
 unfold gJ eG;split
 ·rw [aW.2 (by omega),aW.2 (by simp only;omega),aW.2 (by simp only;omega),ak (by assumption)];rfl
 ·rw [aW.2 (by omega),aW.2 (by simp only;omega),aW.2 (by simp only;omega),ak (by simp only;omega)];rfl
theorem aCb {e:Ed} (hn:2<=n/\n<=12) (he:eG n e=true):GrOk n [e]:=
 ⟨by omega,by omega,List.pairwise_singleton _ _,fun x hx=>by rw [cB.1 hx];exact he⟩
theorem akg (hn:2<=n/\n<=12):GrOk n []:=⟨by omega,by omega,List.Pairwise.nil,fun x hx=>by cases hx⟩
theorem Pnd.ord (h:Pnd n own cuts lab nums said ss g c x5 x6 x7 x8 x9 x10 x11 x12 x13) (h9:x9≠0) (hc:c<=80) :
  (1<=x9/\x9<=ss.length)/\∃L y,ss[(x9-1).toNat]?=some (L,y)/\qb n (x10,x11,x12,x13)=true/\x10=y.1+1/\x10=nums.getD (x9-1).toNat 0+1:=by
 have num:∀{g'} (hP:Ply n own cuts lab nums said ss g' c) {s:Int},1<=s/\s<=ss.length->∃L y,ss[(s-1).toNat]?=some (L,y)/\nums.getD (s-1).toNat 0=y.1/\0<=y.1/\y.1<=c:=by
  intro g' hP s hs;obtain ⟨L,y,hy⟩:=hP.at hs;obtain ⟨s1,s2,s3,_⟩:=hP.sh _ _ _ hy;exact ⟨L,y,hy,s2,s1.len.2.2.2.1,s3⟩
 cases h with
 | idle h=>exact absurd rfl h9
 | chg h hi hs ho ha hb d_ hw=>
  have hr:=h.owr.2 _ ha;obtain ⟨L,y,hy,y1,y2,y3⟩:=num h hr;exact ⟨hr,L,y,hy,akf h.n2 (by simp only;omega) (.inl ⟨ho,rfl,rfl⟩) (aCb h.n2 (Rq h.n2 ha hb d_)),by omega,rfl⟩
 | rel h hi hs ha hb hw=>
  have hr:=h.owr.2 _ ha;obtain ⟨L,y,hy,y1,y2,y3⟩:=num h hr;exact ⟨hr,L,y,hy,akf h.n2 (by simp only;omega) (.inr (.inl ⟨rfl,rfl,ha⟩)) (akg h.n2),by omega,rfl⟩
 | acc h hi hs ha hb qB bq gP hg=>
  obtain ⟨L,y,hy,y1,y2,y3⟩:=num h hb;exact ⟨hb,L,y,hy,akf h.n2 (by simp only;omega) (.inr (.inr ⟨rfl,qB.2,rfl⟩)) qB.1,by omega,rfl⟩
theorem art {k:Nat} {op a b:Int} (h:(op=1\/op=2)/\(0<=a/\a<n)/\(0<=b/\b<n)/\a≠b\/op=4/\(0<=a/\a<n)/\(1<=b/\b<=k)):wC n k op a b=true:=by
 unfold wC;rcases h with ⟨h1,h2,h3,h4⟩|⟨h1,h2,h3⟩
 ·rw [aW.2 (by omega),aW.2 (by omega),aA (by omega),ax,aW.2 (by omega),aA h4];rfl
 ·rw [aW.2 (by omega),aW.2 (by omega),ak h1,ai,aW.2 (by omega)];rfl
theorem Pnd.tk (h:Pnd n own cuts lab nums said ss g c x5 x6 x7 x8 x9 x10 x11 x12 x13) (hc:c<=80):sI n lab.length nums said x5 x6 x7 x8 x9 (x10,x11,x12,x13)=true:=by
 unfold sI;by_cases h9:x9=0
 ·have:tB x5 x6 x7 x8 x9 (x10,x11,x12,x13)=true:=by
   have hr:∀{g'} (hP:Ply n own cuts lab nums said ss g' c) {a:Int},0<=a/\a<n->own.getD a.toNat 0≠0:=by
    intro g' hP a ha;have:=hP.owr.2 a ha;omega
   cases h with
   | idle h=>rfl
   | chg h hi hs ho ha hb d_ hw=>exact absurd h9 (hr h ha)
   | rel h hi hs ha hb hw=>exact absurd h9 (hr h ha)
   | acc h hi hs ha hb qB bq gP hg=>omega
  rw [this];rfl
 ·obtain ⟨h1,L,y,h2,h3,h4,h5⟩:=h.ord h9 hc;obtain ⟨g',hP⟩:=h.ply;have hk:=hP.k;have hy:=(hP.sh _ _ _ h2).1.len;have agN:(aY x5 1 100000&&(!decide (x6=3)&&wC n lab.length x6 x7 x8))=true/\sA said x5<0:=by
   cases h with
   | idle h=>exact absurd rfl h9
   | chg h hi hs ho ha hb d_ hw=>
    rw [hi,aA (by omega),art (.inl ⟨ho,ha,hb,d_⟩)];exact ⟨rfl,hs⟩
   | rel h hi hs ha hb hw=>
    rw [hi,art (.inr ⟨rfl,ha,by omega⟩)];exact ⟨rfl,hs⟩
   | acc h hi hs ha hb qB bq gP hg=>
    rw [hi,art (.inr ⟨rfl,ha,by omega⟩)];exact ⟨rfl,hs⟩
  rw [agN.1,aW.2 (show 1<=x9/\x9<=(lab.length:Int) from by omega),h3,wr (n:=nums.getD (x9-1).toNat 0+1) (by omega) (by omega),ak (show (x10,x11,x12,x13).1=nums.getD (x9-1).toNat 0+1 from h5),ak agN.2];simp
theorem Pnd.hd (h:Pnd n own cuts lab nums said ss g c x5 x6 x7 x8 x9 x10 x11 x12 x13) (hc:c<=80):uH n own cuts lab nums said (sI n lab.length nums said x5 x6 x7 x8 x9 (x10,x11,x12,x13))=true:=by
 obtain ⟨g',hP⟩:=h.ply;exact hP.hd hc (h.tk hc)
end
section
variable {n:Nat} {g:aa Ed} (hg:GrOk n g)
include hg
theorem MN {op a b:Int} (h:op=1\/op=2) (ha:0<=a/\a<n) (hb:0<=b/\b<n) (d_:a≠b) :
  yO n g op a b=(let r:=if op=2 then aq8 n g (gJ a b) else MG n g (gJ a b);if r.2.2 then (r.1,r.2.1,1) else ((n:Int),g,2)):=by
 unfold yO;rw [aW.2 (by omega),ak ha.1,ak ha.2,ak hb.1,ak hb.2,aA d_];simp only [wM,if_true,Bool.false_and,ib];rw [if_neg (by omega),if_neg (by omega)]
theorem ac3 {a b:Int} (ha:0<=a/\a<n) (hb:0<=b/\b<n) (d_:a≠b) (he:gJ a b∉g):yO n g 1 a b=((n:Int),ins g (gJ a b),1)/\yO n g 2 a b=((n:Int),g,2):=by
 have hn:2<=n/\n<=12:=by have:=hg.1;have:=hg.2.1;omega
 rw [MN hg (.inl rfl) ha hb d_,MN hg (.inr rfl) ha hb d_];unfold aq8 MG;rw [abA hg,Rq hn ha hb d_,aA he];exact ⟨rfl,rfl⟩
theorem ac4 {a b:Int} (ha:0<=a/\a<n) (hb:0<=b/\b<n) (d_:a≠b) (he:gJ a b∈g):yO n g 1 a b=((n:Int),g,2)/\yO n g 2 a b=((n:Int),del g (gJ a b),1):=by
 have hn:2<=n/\n<=12:=by have:=hg.1;have:=hg.2.1;omega
 rw [MN hg (.inl rfl) ha hb d_,MN hg (.inr rfl) ha hb d_];unfold aq8 MG;rw [abA hg,Rq hn ha hb d_,ak he];exact ⟨rfl,rfl⟩
omit hg in
theorem XI {a b:Int} (ha:0<=a/\a<n):yO n g 4 a b=((n:Int),g,if aY b 1 3=true then 1 else 3):=by
 unfold yO;rw [aW.2 (by omega),ak ha.1,ak ha.2];rfl
theorem aAn {a b:Int} (ha:0<=a/\a<n) (hb:0<=b/\b<n):yO n g 3 a b=((n:Int),g,if (labs n g).getD a.toNat 0=(labs n g).getD b.toNat 0 then 1 else 2):=by
 unfold yO;rw [aW.2 (by omega),ak ha.1,ak ha.2,ak hb.1,ak hb.2];simp only [wM,if_true,decide_true,bC,Bool.and_false,ib];rw [if_neg (by omega)];unfold tgB;rw [abA hg,aW.2 (by omega),aW.2 (by omega),iB];simp only [dZ,decide_eq_true_eq]
omit hg in
theorem aAo {k:Nat} (hk:k<=3) {op a b:Int} (h:wC n k op a b=false):(yO n g op a b).2.1=g/\((yO n g op a b).2.2=3\/op=4/\(yO n g op a b).2.2=1):=by
 unfold wC at h;unfold yO;by_cases h1:aY op 1 4=true
 ·rw [h1] at h ⊢;by_cases h2:0<=a/\a<n
  ·rw [aW.2 (show 0<=a/\a<=(n:Int)-1 from by omega)] at h;rw [ak h2.1,ak h2.2];simp only [wM,if_true,dZ] at h ⊢;by_cases h4:op=4
   ·rw [if_pos h4];refine ⟨rfl,?_⟩;by_cases h5:aY b 1 3=true
    ·exact .inr ⟨h4,by rw [if_pos h5]⟩
    ·exact .inl (by rw [if_neg h5])
   ·rw [aA h4,ax] at h;rw [if_neg h4,if_neg]
    ·exact ⟨rfl,.inl rfl⟩
    ·intro hc;simp only [aU,decide_eq_true_eq,sV,Bool.and_eq_false_iff,decide_eq_false_iff_not,Bool.not_eq_false'] at hc;rw [aW.2 (show 0<=b/\b<=(n:Int)-1 from by omega)] at h;simp only [dZ,Bool.not_eq_false',aU,decide_eq_true_eq,iE] at h;rcases hc.2 with h6|h6
     ·exact h6 h.1
     ·omega
  ·rw [if_neg]
   ·exact ⟨rfl,.inl rfl⟩
   ·simp only [aU,decide_eq_true_eq];exact fun hc=>h2 hc.2
 ·rw [if_neg]
  ·exact ⟨rfl,.inl rfl⟩
  ·simp only [aU];exact fun hc=>h1 hc.1
end
def Rpl (n:Nat) (g:aa Ed) (op a b v:Int) (g':aa Ed):Prop:=
 g'=(if v=3 then g else (yO n g op a b).2.1)/\(1<=v/\v<=3)/\(v=(yO n g op a b).2.2\/op=4/\(v=2\/((yO n g op a b).2.2=1/\v=3)))
theorem aou (a b:Int):(gJ a b=(a,b))\/(gJ a b=(b,a)):=by
 unfold gJ;split
 ·exact .inl rfl
 ·exact .inr rfl
section
variable {n:Nat} {own:aa Int} {cuts:aa Ed} {lab:aa (aa Int)} {nums:aa Int} {said:aa Sd} {ss:aa Bv} {g:aa Ed} {c:Nat}
theorem Ply.split (h:Ply n own cuts lab nums said ss g c) {j0:Nat} {L:aa aD} {y:An} (hs:ss[j0]?=some (L,y)) (x:Ed):x∈g↔x∈cuts\/x∈gE L\/∃(j:Nat) (M:aa aD) (w:An),j≠j0/\ss[j]?=some (M,w)/\x∈gE M:=by
 rw [h.gin];constructor
 ·rintro (h1|⟨j,M,w,hj,he⟩)
  ·exact .inl h1
  ·by_cases hjj:j=j0
   ·subst hjj;rw [hs] at hj;cases hj;exact .inr (.inl he)
   ·exact .inr (.inr ⟨j,M,w,hjj,hj,he⟩)
 ·rintro (h1|h1|⟨j,M,w,_,hj,he⟩)
  ·exact .inl h1
  ·exact .inr ⟨j0,L,y,hs,h1⟩
  ·exact .inr ⟨j,M,w,hj,he⟩
theorem Ply.whole (h:Ply n own cuts lab nums said ss g c):(Ci n lab cuts).1=labs n g:=by
 obtain ⟨k1,k2,k3,k4⟩:=h.k;have hn:=h.n2;have akQ:∀l,l∈lab->∃(j:Nat) (L:aa aD) (y:An),ss[j]?=some (L,y)/\l=labs n (gE L)/\ShR ((j:Int)+1) n L y:=by
  intro l hl;obtain ⟨j,hj,rfl⟩:=FZ.1 hl;have uh:j<ss.length:=by omega
  obtain ⟨s1,_,_,s4,_⟩:=h.sh j _ _ (aT uh);refine ⟨j,_,_,aT uh,?_,s1⟩;rw [<-s4,dw,aT hj];rfl
 have FM:lab.all (pL n)=true:=by
  rw [bX];intro l hl;obtain ⟨j,L,y,h1,h2,h3⟩:=akQ l hl;rw [h2];exact aAb (S_ h3)
 have agM:cuts.all (eG n)=true:=by
  rw [bX];exact h.cgr.2.2.2
 unfold Ci;rw [if_pos]
 ·show labs (n:Int).toNat _=_;rw [iB];have ac9:o8 n g:=fun e he=>by
   have:=fQ (h.gr.2.2.2 e he);exact ⟨this.1,this.2.1,this.2.2.1,this.2.2.2.1⟩
  have hEV:o8 n (lab.flatMap Ch++cuts):=fun e he=>by
   rcases bJ.1 he with he|he
   ·obtain ⟨l,hl,he⟩:=Cs.1 he;obtain ⟨j,L,y,h1,h2,h3⟩:=akQ l hl;subst h2;obtain ⟨w,g1,g2⟩:=auK he;have t1:=(lu (S_ h3)).lt g1;have t2:=(bf g1).1;rw [dV] at t2;omega
   ·exact ac9 e ((h.gin e).2 (.inl he))
  refine (lu hEV).uniq (lu ac9) fun u v => ?_
  constructor
  ·refine fun hc=>hc.sub fun e he => ?_
   rcases bJ.1 he with he|he
   ·obtain ⟨l,hl,he⟩:=Cs.1 he;obtain ⟨j,L,y,h1,h2,h3⟩:=akQ l hl;subst h2;obtain ⟨w,g1,g2⟩:=auK he;have:=((lu (S_ h3)).2 w _ g1).1;rw [g2];exact (this.mono fun x hx=>(h.gin x).2 (.inr ⟨j,L,y,h1,hx⟩)).symm
   ·exact .of ((h.gin e).2 (.inl he))
  ·refine fun hc=>hc.sub fun e he => ?_
   rcases (h.gin e).1 he with he|⟨j,L,y,hj,he⟩
   ·exact .of (jJ _ he)
   ·obtain ⟨s1,_,_,s4,_⟩:=h.sh j L y hj;have uK:j<lab.length:=by
     have:=(bf hj).1;omega
    have hl:labs n (gE L)∈lab:=by
     rw [<-s4,dw,aT uK];exact nM uK
    have bq:∀x,x∈Ch (labs n (gE L))->x∈lab.flatMap Ch++cuts:=fun x hx=>jr _ (Cs.2 ⟨_,hl,hx⟩)
    have hL:=lu (S_ s1);obtain ⟨a1,a2,a3,a4⟩:=S_ s1 e he;have i1:e.1.toNat<(labs n (gE L)).length:=by rw [dV];omega
    have i2:e.2.toNat<(labs n (gE L)).length:=by rw [dV];omega
    have g1:=getD_at i1;have g2:=getD_at i2;have hxy:=(hL.iff g1 g2).2 (by rw [jL a1,jL a3];exact Con.of he);have m1:=bq _ (auJ g1);have m2:=bq _ (auJ g2);rw [jL a1] at m1;rw [jL a3,<-hxy] at m2;exact (Con.of m1).symm.trans (Con.of m2)
 ·unfold wlB;rw [aW.2 (by omega),ak (by omega),FM,agM];rfl
theorem au9 (h:Ply n own cuts lab nums said ss g c) {i op a b:Int} (hi:aY i 1 100000=true) (hs:sA said i<0) :
  ∃(cuts':aa Ed) (x5 x6 x7 x8 x9 x10 x11:Int) (x12:aa Ed) (x13:Int) (said':aa Sd) (told:Int) (g':aa Ed),VQ n own cuts lab nums said i op a b=((n:Int),own,cuts',lab,nums,x5,x6,x7,x8,x9,x10,x11,x12,x13,said',told)/\Pnd n own cuts' lab nums said' ss g' (c+1) x5 x6 x7 x8 x9 x10 x11 x12 x13 /\
   ((told=1/\x9=0/\∃v,said'=said++[(i,i,op,a,b,v)]/\Rpl n g op a b v g')\/(told=2/\x9≠0/\said'=said/\g'=g/\x5=i/\x6=op/\x7=a/\x8=b)):=by
 obtain ⟨k1,k2,k3,k4⟩:=h.k;have hn:=h.n2;have ui:∀v:Int,1<=v/\v<=3->yP (said++[(i,i,op,a,b,v)])/\(said++[(i,i,op,a,b,v)]).length<=c+1:=fun v hv=>⟨aot h.sdo.1 hs hv,by
  have:=h.sdo.2
  simp only [dR,bI,bS]
  omega⟩
 have ay6:=h.onw (said':=said) ⟨h.sdo.1,by have:=h.sdo.2;omega⟩;unfold VQ;by_cases hr:wC n lab.length op a b=false
 ·rw [if_pos hr];obtain ⟨m1,m2⟩:=aAo (g:=g) (show lab.length<=3 by omega) hr;refine ⟨_,_,_,_,_,_,_,_,_,_,_,_,g,rfl,.idle (h.onw (ui 3 (by omega))),.inl ⟨rfl,rfl,3,rfl,by rw [if_pos rfl],by omega,?_⟩⟩;rcases m2 with m2|m2
  ·exact .inl m2.symm
  ·exact .inr ⟨m2.1,.inr ⟨m2.2,rfl⟩⟩
 ·rw [if_neg hr];rw [Bool.not_eq_false] at hr;unfold wC at hr;simp only [aU,aW] at hr;obtain ⟨r1,r2,r3⟩:=hr;have ha:0<=a/\a<n:=by omega
  by_cases h3:op=3
  ·rw [if_pos h3,h.whole];subst h3;rw [aA (by omega),ax] at r3;simp only [aU,aW] at r3;have hb:0<=b/\b<n:=by omega
   have hm:=aAn h.gr ha hb;by_cases hl:(labs n g).getD a.toNat 0=(labs n g).getD b.toNat 0
   ·rw [if_pos hl] at hm ⊢;exact ⟨_,_,_,_,_,_,_,_,_,_,_,_,g,rfl,.idle (h.onw (ui 1 (by omega))),.inl ⟨rfl,rfl,1,rfl,by rw [if_neg (by omega),hm],by omega,.inl (by rw [hm])⟩⟩
   ·rw [if_neg hl] at hm ⊢;exact ⟨_,_,_,_,_,_,_,_,_,_,_,_,g,rfl,.idle (h.onw (ui 2 (by omega))),.inl ⟨rfl,rfl,2,rfl,by rw [if_neg (by omega),hm],by omega,.inl (by rw [hm])⟩⟩
  ·rw [if_neg h3];by_cases h4:op=4
   ·rw [if_pos h4];subst h4;rw [ak rfl,ai,aW] at r3;have hm:=XI (g:=g) (b:=b) ha;by_cases ho:own.getD a.toNat 0=b
    ·rw [if_pos ho];exact ⟨_,_,_,_,_,_,_,_,_,_,_,_,g,rfl,.idle (h.onw (ui 2 (by omega))),.inl ⟨rfl,rfl,2,rfl,by rw [if_neg (by omega),hm],by omega,.inr ⟨rfl,.inl rfl⟩⟩⟩
    ·rw [if_neg ho];have:=h.owr.2 a ha;exact ⟨_,_,_,_,_,_,_,_,_,_,_,_,g,rfl,.rel ay6 hi hs ha (by omega) ho,.inr ⟨rfl,by omega,rfl,rfl,rfl,rfl,rfl,rfl⟩⟩
   ·rw [if_neg h4];rw [aA h4,ax] at r3;simp only [aU,aW,sV,Bool.and_eq_false_iff,decide_eq_false_iff_not,nL] at r3;have hb:0<=b/\b<n:=by omega
    have lU:op=1\/op=2:=by omega
    have d_:a≠b:=by
     rcases r3.2 with h|h
     ·exact h
     ·omega
    have hed:=Rq hn ha hb d_;unfold tkE;have NR:(own.getD (gJ a b).1.toNat 0=own.getD (gJ a b).2.toNat 0↔own.getD a.toNat 0=own.getD b.toNat 0)/\(own.getD a.toNat 0=own.getD b.toNat 0->own.getD (gJ a b).1.toNat 0=own.getD a.toNat 0):=by
     rcases aou a b with h|h
     ·rw [h];exact ⟨Iff.rfl,fun _=>rfl⟩
     ·rw [h];exact ⟨⟨fun h=>h.symm,fun h=>h.symm⟩,fun h=>h.symm⟩
    by_cases hw:own.getD (gJ a b).1.toNat 0=own.getD (gJ a b).2.toNat 0
    ·rw [if_pos hw];have wG:=NR.1.1 hw;rw [NR.2 wG];have:=h.owr.2 a ha;have aGB:(if op=2 then (2:Int) else 1)=op:=by
      rcases lU with h|h<;>subst h<;>rfl
     rw [aGB];exact ⟨_,_,_,_,_,_,_,_,_,_,_,_,g,rfl,.chg ay6 hi hs lU ha hb d_ wG,.inr ⟨rfl,by omega,rfl,rfl,rfl,rfl,rfl,rfl⟩⟩
    ·rw [if_neg hw];have hcg:=h.two hw;by_cases bq:gJ a b∈cuts
     ·have qA:=hcg.2 bq;obtain ⟨m1,m2⟩:=ac4 h.gr ha hb d_ qA;rcases lU with rfl|rfl
      ·rw [ak bq,if_pos (by decide)];exact ⟨_,_,_,_,_,_,_,_,_,_,_,_,g,rfl,.idle (h.onw (ui 2 (by omega))),.inl ⟨rfl,rfl,2,rfl,by rw [if_neg (by omega),m1],by omega,.inl (by rw [m1])⟩⟩
      ·rw [ak bq,if_neg (by decide),if_pos bq];refine ⟨_,_,_,_,_,_,_,_,_,_,_,_,del g (gJ a b),rfl,.idle ⟨h.n2,h.k,h.owr,h.cgr.del,fun e he=>h.cut e (o9.1 he).1,fun j L y hj => ?_,h.gr.del,fun e => ?_,ui 1 (by omega)⟩,.inl ⟨rfl,rfl,1,rfl,by rw [if_neg (by omega),m2],by omega,.inl (by rw [m2])⟩⟩
       ·obtain ⟨s1,s2,s3,s4,s5⟩:=h.sh j L y hj;exact ⟨s1,s2,by omega,s4,s5⟩
       ·rw [o9,o9,h.gin];constructor
        ·rintro ⟨h1|h1,h2⟩
         ·exact .inl ⟨h1,h2⟩
         ·exact .inr h1
        ·rintro (h1|⟨j,L,y,hj,he⟩)
         ·exact ⟨.inl h1.1,h1.2⟩
         ·refine ⟨.inr ⟨j,L,y,hj,he⟩,?_⟩;rintro rfl;have:=(h.sh j L y hj).2.2.2.2 _ he;exact hw (this.1.trans this.2.symm)
     ·have qA:gJ a b∉g:=fun h'=>bq (hcg.1 h')
      obtain ⟨m1,m2⟩:=ac3 h.gr ha hb d_ qA;rcases lU with rfl|rfl
      ·rw [aA bq,if_neg (by decide),if_neg bq];refine ⟨_,_,_,_,_,_,_,_,_,_,_,_,ins g (gJ a b),rfl,.idle ⟨h.n2,h.k,h.owr,h.cgr.ins hed,fun e he => ?_,fun j L y hj => ?_,h.gr.ins hed,fun e => ?_,ui 1 (by omega)⟩,.inl ⟨rfl,rfl,1,rfl,by rw [if_neg (by omega),m1],by omega,.inl (by rw [m1])⟩⟩
       ·rcases mP.1 he with rfl|he
        ·exact hw
        ·exact h.cut e he
       ·obtain ⟨s1,s2,s3,s4,s5⟩:=h.sh j L y hj;exact ⟨s1,s2,by omega,s4,s5⟩
       ·rw [mP,mP,h.gin];constructor
        ·rintro (h1|h1|h1)
         ·exact .inl (.inl h1)
         ·exact .inl (.inr h1)
         ·exact .inr h1
        ·rintro ((h1|h1)|h1)
         ·exact .inl h1
         ·exact .inr (.inl h1)
         ·exact .inr (.inr h1)
      ·rw [aA bq,if_pos (by decide)];exact ⟨_,_,_,_,_,_,_,_,_,_,_,_,g,rfl,.idle (h.onw (ui 2 (by omega))),.inl ⟨rfl,rfl,2,rfl,by rw [if_neg (by omega),m2],by omega,.inl (by rw [m2])⟩⟩
end
theorem aru (a:aa Int) (ha:a.length<=1048576):∃v,K5 a=some (v,())/\0<=v/\v<=60:=by
 show ∃v,K4 BIG _=_/\_;rw [apO,aA (by omega),ax];have h1:Int.tdiv (a.length:Int) 4=(a.length:Int) / 4:=Int.tdiv_eq_ediv_of_nonneg (by omega);rw [h1,wr (n:=(a.length:Int) / 4) (by omega) (by omega),wr (n:=12+(a.length:Int) / 4) (by omega) (by omega)];by_cases h:(60:Int)<12+(a.length:Int) / 4
 ·rw [ak h];exact ⟨60,rfl,by omega,by omega⟩
 ·rw [aA h];exact ⟨_,rfl,by omega,by omega⟩
theorem arv (W:Int × aa aD) (h:W.2.length<=1048576):Mt (W,W)=some (true,()):=by
 have hm:maxLen=9223372036854775807:=by decide
 show Ms BIG _=_;rw [aq2,ak (rfl:W.1=W.1),ak (rfl:(W.2.length:Int)=W.2.length)];simp only [bC,ax,ae];refine dW (P:=fun o=>o=some (true,())) (fun (j:Int)=>∃i:Nat,j=(i:Int)/\i<=W.2.length) (fun j=>W.2.length-j.toNat) (fun _ b=>b=Sum.inl ()) (by simp only [BIG];omega) ⟨0,rfl,by omega⟩ (fun self s hx hs => ?_) (fun b hb=>by rw [hb]);obtain ⟨i,rfl,hi⟩:=hx;by_cases hl:i<W.2.length
 ·rw [ak (by omega),ai,aH hl,aT hl];simp only [ae,aH hl,aT hl,decide_true,beq_self_eq_true,wM,bC,ax];rw [bV (by omega)];exact hs _ ⟨i+1,rfl,by omega⟩ (by omega)
 ·rw [aA (by omega),ax];exact ⟨_,rfl,rfl⟩
theorem VW {x:Ed}:∀(es c:aa Ed),x∈es.foldl ins c↔x∈c\/x∈es
 | [],c=>by simp
 | e::es,c=>by
  rw [gK,VW es,mP,a_];constructor
  ·rintro ((h|h)|h)
   ·exact .inr (.inl h)
   ·exact .inl h
   ·exact .inr (.inr h)
  ·rintro (h|h|h)
   ·exact .inl (.inr h)
   ·exact .inl (.inl h)
   ·exact .inr h
theorem abB {n:Int}:∀(es c:aa Ed),GrOk n c->(∀e,e∈es->eG n e=true)->GrOk n (es.foldl ins c)
 | [],c,h,_=>h
 | e::es,c,h,he=>abB es (ins c e) (h.ins (he e (dX ..))) fun x hx=>he x (dU _ hx)
theorem qK {x:Ed}:∀(es c:aa Ed),x∈es.foldl del c↔x∈c/\x∉es
 | [],c=>by simp
 | e::es,c=>by
  rw [gK,qK es,o9,a_];constructor
  ·rintro ⟨⟨h1,h2⟩,h3⟩;exact ⟨h1,fun h=>h.elim h2 h3⟩
  ·rintro ⟨h1,h2⟩;exact ⟨⟨h1,fun h=>h2 (.inl h)⟩,fun h=>h2 (.inr h)⟩
theorem MO {n:Int}:∀(es c:aa Ed),GrOk n c->GrOk n (es.foldl del c)
 | [],c,h=>h
 | e::es,c,h=>MO es (del c e) h.del
theorem au_ {own:aa Int} {n:Nat} (hl:own.length=n) {b:Int} {x:Ed} (hx:eG n x=true):Fu own b x=true↔own.getD x.1.toNat 0=b/\own.getD x.2.toNat 0=b:=by
 have hr:=fQ hx;have g:∀v:Int,0<=v/\v<n->own[v.toNat]?=some (own.getD v.toNat 0):=fun v hv=>by
  have:v.toNat<own.length:=by omega
  rw [dw,aT this];rfl
 unfold Fu;rw [g _ ⟨hr.1,hr.2.1⟩,g _ ⟨hr.2.2.1,hr.2.2.2.1⟩,ak hr.1,ak hr.2.2.1,ak (show x.1<own.length by omega),ak (show x.2<own.length by omega)];simp
theorem Dne.labs {n:Nat} {L L':aa aD} {o:Bn} {z:An} (h:Dne n L L' o z) {x0:Int} (hR:ShR x0 n L' z):z.2.2.2=Go.Fw.labs n (gE L'):=h.lab.trans hR.web.labs
section
variable {n:Nat} {own:aa Int} {cuts:aa Ed} {lab:aa (aa Int)} {nums:aa Int} {said:aa Sd} {ss:aa Bv} {g:aa Ed} {c:Nat} {x5 x6 x7 x8 x9 x10 x11:Int} {x12:aa Ed} {x13:Int}
theorem Ply.own_at (h:Ply n own cuts lab nums said ss g c) {a b:Int} (ha:0<=a/\a<n) (hb:1<=b/\b<=ss.length) :
  (∀v:Int,0<=v/\v<n->(own.set a.toNat b).getD v.toNat 0=if v=a then b else own.getD v.toNat 0)/\(own.set a.toNat b).length=n/\∀v:Int,0<=v/\v<n->1<=(own.set a.toNat b).getD v.toNat 0/\(own.set a.toNat b).getD v.toNat 0<=ss.length:=by
 have hl:=h.owr.1;have h0:∀v:Int,0<=v/\v<n->(own.set a.toNat b).getD v.toNat 0=if v=a then b else own.getD v.toNat 0:=by
  intro v hv;rw [FJ _ _ _ _ _ (by omega)];by_cases hva:v=a
  ·rw [if_pos (by rw [hva]),if_pos hva]
  ·rw [if_neg (by omega),if_neg hva]
 refine ⟨h0,by rw [lX];exact hl,fun v hv => ?_⟩;rw [h0 v hv];split
 ·exact hb
 ·exact h.owr.2 v hv
theorem ava (h:Pnd n own cuts lab nums said ss g c x5 x6 x7 x8 x9 x10 x11 x12 x13) (h9:x9≠0) (h1:1<=x9) {L L':aa aD} {y z:An} (hs:ss[(x9-1).toNat]?=some (L,y)) (axl:x10=y.1+1) (hR:ShR x9 n L' z) (hD:Dne n L L' (x10,x11,x12,x13) z) :
  ∃(own':aa Int) (cuts':aa Ed) (t5 t6 t7 t8 t9 t10 t11:Int) (t12:aa Ed) (t13:Int) (said':aa Sd) (told:Int) (g':aa Ed),
   Rj n own cuts (lab.set (x9-1).toNat z.2.2.2) (nums.set (x9-1).toNat z.1) said x5 x6 x7 x8 x11 z.2.1 z.2.2.1=((n:Int),own',cuts',lab.set (x9-1).toNat z.2.2.2,nums.set (x9-1).toNat z.1,t5,t6,t7,t8,t9,t10,t11,t12,t13,said',told) /\
   Pnd n own' cuts' (lab.set (x9-1).toNat z.2.2.2) (nums.set (x9-1).toNat z.1) said' (ss.set (x9-1).toNat (L',z)) g' (c+1) t5 t6 t7 t8 t9 t10 t11 t12 t13 /\
   ((told=1/\t9=0/\∃v,said'=said++[(x5,x5,x6,x7,x8,v)]/\Rpl n g x6 x7 x8 v g')\/(told=2/\t9≠0/\said'=said/\g'=g/\t5=x5/\t6=x6/\t7=x7/\t8=x8/\x11=3/\t11=4)):=by
 have hz:z.1=y.1+1:=hD.num.trans axl;have hl:=hD.labs hR;have sd:∀{g'} (hP:Ply n own cuts lab nums said ss g' c) (Km:sA said x5<0) (v:Int),1<=v/\v<=3->yP (said++[(x5,x5,x6,x7,x8,v)])/\(said++[(x5,x5,x6,x7,x8,v)]).length<=c+1:=fun hP Km v hv=>⟨aot hP.sdo.1 Km hv,by
  have:=hP.sdo.2
  simp only [dR,bI,bS]
  omega⟩
 cases h with
 | idle h=>exact absurd rfl h9
 | chg h hi Km ho ha hb d_ hw=>
  have hn:=h.n2;obtain ⟨hL,hy⟩:=h.sh _ _ _ hs;have uJ:(((own.getD x7.toNat 0-1).toNat:Nat):Int)+1=own.getD x7.toNat 0:=by omega
  have hed:=Rq hn ha hb d_;have NR:own.getD (gJ x7 x8).1.toNat 0=own.getD x7.toNat 0/\own.getD (gJ x7 x8).2.toNat 0=own.getD x7.toNat 0:=by
   rcases aou x7 x8 with h'|h'
   ·rw [h'];exact ⟨rfl,hw.symm⟩
   ·rw [h'];exact ⟨hw.symm,rfl⟩
  have arU:=h.one NR.1 NR.2 hs h1;have FX:∀e,e∈gE L->own.getD e.1.toNat 0=own.getD x7.toNat 0/\own.getD e.2.toNat 0=own.getD x7.toNat 0:=fun e he=>by
   have:=hy.2.2.2 e he;rw [uJ] at this;exact this
  have XR:∀(j:Nat) (M:aa aD) (w:An),j≠(own.getD x7.toNat 0-1).toNat->ss[j]?=some (M,w)->∀e,e∈gE M->own.getD e.1.toNat 0=(j:Int)+1/\own.getD e.2.toNat 0=(j:Int)+1:=fun j M w _ hj e he=>(h.sh j M w hj).2.2.2.2 e he
  have aZ:∀(j:Nat) (M:aa aD) (w:An),j≠(own.getD x7.toNat 0-1).toNat->ss[j]?=some (M,w)->gJ x7 x8∉gE M:=fun j M w hj hm bq=>by
   have:=XR j M w hj hm _ bq;omega
  have hnc:gJ x7 x8∉cuts:=fun bq=>h.cut _ bq (NR.1.trans NR.2.symm)
  unfold Rj;rw [if_neg (by omega)];rcases ho with rfl|rfl
  ·obtain ⟨d1,_,_,d4⟩:=hD.add (.inl rfl);have d4:=d4 _ rfl;have Hw:∀e,e∈gE L'->own.getD e.1.toNat 0=own.getD x7.toNat 0/\own.getD e.2.toNat 0=own.getD x7.toNat 0:=fun e he=>by
    rcases (d1 e).1 he with he|he
    ·exact FX e he
    ·rw [cB.1 he];exact NR
   by_cases bq:gJ x7 x8∈gE L
   ·obtain ⟨m1,_⟩:=ac4 h.gr ha hb d_ (arU.2 bq);rw [ak bq] at d4;rw [d4];refine ⟨_,_,_,_,_,_,_,_,_,_,_,_,_,g,rfl,.idle (h.upd h1 hs hR hz hl h.owr h.cgr h.cut Hw XR h.gr (fun e => ?_) (sd h Km 2 (by omega))),.inl ⟨rfl,rfl,2,rfl,by rw [if_neg (by omega),m1],by omega,.inl (by rw [m1])⟩⟩;rw [h.split hs,d1];constructor
    ·rintro (h|h|h)
     ·exact .inl h
     ·exact .inr (.inl (.inl h))
     ·exact .inr (.inr h)
    ·rintro (h | (h|h)|h)
     ·exact .inl h
     ·exact .inr (.inl h)
     ·rw [cB.1 h];exact .inr (.inl bq)
     ·exact .inr (.inr h)
   ·have qA:gJ x7 x8∉g:=fun h'=>bq (arU.1 h')
    obtain ⟨m1,_⟩:=ac3 h.gr ha hb d_ qA;rw [aA bq] at d4;rw [d4];refine ⟨_,_,_,_,_,_,_,_,_,_,_,_,_,ins g (gJ x7 x8),rfl,.idle (h.upd h1 hs hR hz hl h.owr h.cgr h.cut Hw XR (h.gr.ins hed) (fun e => ?_) (sd h Km 1 (by omega))),.inl ⟨rfl,rfl,1,rfl,by rw [if_neg (by omega),m1],by omega,.inl (by rw [m1])⟩⟩;rw [mP,h.split hs,d1];constructor
    ·rintro (h|h|h|h)
     ·exact .inr (.inl (.inr (cB.2 h)))
     ·exact .inl h
     ·exact .inr (.inl (.inl h))
     ·exact .inr (.inr h)
    ·rintro (h | (h|h)|h)
     ·exact .inr (.inl h)
     ·exact .inr (.inr (.inl h))
     ·exact .inl (cB.1 h)
     ·exact .inr (.inr (.inr h))
  ·obtain ⟨e',q1,q2,q3,_⟩:=hD.take rfl;have q0:e'=gJ x7 x8:=by
    have:[gJ x7 x8]=[e']:=q1;simp only [RV,and_true] at this;exact this.symm
   subst q0;have Hw:∀e,e∈gE L'->own.getD e.1.toNat 0=own.getD x7.toNat 0/\own.getD e.2.toNat 0=own.getD x7.toNat 0:=fun e he=>by
    rw [q2,o9] at he;exact FX e he.1
   by_cases bq:gJ x7 x8∈gE L
   ·obtain ⟨_,m1⟩:=ac4 h.gr ha hb d_ (arU.2 bq);rw [ak bq] at q3;rw [q3];refine ⟨_,_,_,_,_,_,_,_,_,_,_,_,_,del g (gJ x7 x8),rfl,.idle (h.upd h1 hs hR hz hl h.owr h.cgr h.cut Hw XR h.gr.del (fun e => ?_) (sd h Km 1 (by omega))),.inl ⟨rfl,rfl,1,rfl,by rw [if_neg (by omega),m1],by omega,.inl (by rw [m1])⟩⟩;rw [o9,h.split hs,q2,o9];constructor
    ·rintro ⟨h|h|h,h'⟩
     ·exact .inl h
     ·exact .inr (.inl ⟨h,h'⟩)
     ·exact .inr (.inr h)
    ·rintro (h|h|h)
     ·exact ⟨.inl h,by rintro rfl;exact hnc h⟩
     ·exact ⟨.inr (.inl h.1),h.2⟩
     ·refine ⟨.inr (.inr h),?_⟩;obtain ⟨j,M,w,hj,hm,he⟩:=h;rintro rfl;exact aZ j M w hj hm he
   ·have qA:gJ x7 x8∉g:=fun h'=>bq (arU.1 h')
    obtain ⟨_,m1⟩:=ac3 h.gr ha hb d_ qA;rw [aA bq] at q3;rw [q3];refine ⟨_,_,_,_,_,_,_,_,_,_,_,_,_,g,rfl,.idle (h.upd h1 hs hR hz hl h.owr h.cgr h.cut Hw XR h.gr (fun e => ?_) (sd h Km 2 (by omega))),.inl ⟨rfl,rfl,2,rfl,by rw [if_neg (by omega),m1],by omega,.inl (by rw [m1])⟩⟩;rw [h.split hs,q2,o9];constructor
    ·rintro (h|h|h)
     ·exact .inl h
     ·exact .inr (.inl ⟨h,by rintro rfl;exact bq h⟩)
     ·exact .inr (.inr h)
    ·rintro (h|h|h)
     ·exact .inl h
     ·exact .inr (.inl h.1)
     ·exact .inr (.inr h)
 | rel h hi Km ha hb hw=>
  have hn:=h.n2;obtain ⟨hL,hy⟩:=h.sh _ _ _ hs;have uJ:(((own.getD x7.toNat 0-1).toNat:Nat):Int)+1=own.getD x7.toNat 0:=by omega
  obtain ⟨d1,_,d3,_⟩:=hD.rel rfl;have FX:∀e,e∈gE L->own.getD e.1.toNat 0=own.getD x7.toNat 0/\own.getD e.2.toNat 0=own.getD x7.toNat 0:=fun e he=>by
   have:=hy.2.2.2 e he;rw [uJ] at this;exact this
  have FU:∀e,e∈gE L->eG n e=true:=(kr hL.web.gr).1;have XT:∀x,x∈z.2.2.1↔x∈gE L/\(x.1=x7\/x.2=x7):=fun x=>by
   rw [d3,jQ];unfold Bu;rw [decide_eq_true_eq]
  have axn:∀x,x∈gE L'↔x∈gE L/\¬(x.1=x7\/x.2=x7):=fun x=>by
   rw [d1];unfold Bu;rw [decide_eq_false_iff_not]
  have ac9:∀x,x∈g->eG n x=true:=h.gr.2.2.2;have hCm:∀x,x∈qR cuts z.2.2.1↔x∈cuts\/x∈z.2.2.1:=fun x=>VW _ _
  have hCg:∀x,x∈qR cuts z.2.2.1->x∈g:=fun x hx=>by
   rw [h.split hs];rcases (hCm x).1 hx with hx|hx
   ·exact .inl hx
   ·exact .inr (.inl ((XT x).1 hx).1)
  have akV:GrOk n (qR cuts z.2.2.1):=abB _ _ h.cgr fun e he=>FU e ((XT e).1 he).1
  obtain ⟨o1,o2,o3⟩:=h.own_at ha hb;have hIm:∀x,x∈m_ own cuts z.2.2.1 x7 x8↔x∈qR cuts z.2.2.1/\(own.set x7.toNat x8).getD x.1.toNat 0=x8/\(own.set x7.toNat x8).getD x.2.toNat 0=x8:=fun x=>by
   unfold m_;rw [jQ];constructor
   ·rintro ⟨p1,p2⟩;exact ⟨p1,(au_ o2 (ac9 x (hCg x p1))).1 p2⟩
   ·rintro ⟨p1,p2⟩;exact ⟨p1,(au_ o2 (ac9 x (hCg x p1))).2 p2⟩
  have hIg:∀x,x∈m_ own cuts z.2.2.1 x7 x8->x∈g:=fun x hx=>hCg x ((hIm x).1 hx).1
  have aGC:GrOk n (m_ own cuts z.2.2.1 x7 x8):=⟨akV.1,akV.2.1,akV.2.2.1.filter _,fun e he=>akV.2.2.2 e ((hIm e).1 he).1⟩
  have Rx:∀e,e∈z.2.2.1->e∉cuts:=fun e he hc=>by
   have:=FX e ((XT e).1 he).1;exact h.cut e hc (this.1.trans this.2.symm)
  have Jf:∀x:Ed,eG n x=true->x.1≠x7/\x.2≠x7->(own.set x7.toNat x8).getD x.1.toNat 0=own.getD x.1.toNat 0/\(own.set x7.toNat x8).getD x.2.toNat 0=own.getD x.2.toNat 0:=fun x hx aZ=>by
   have hr:=fQ hx;rw [o1 _ ⟨hr.1,hr.2.1⟩,o1 _ ⟨hr.2.2.1,hr.2.2.2.1⟩,if_neg aZ.1,if_neg aZ.2];exact ⟨rfl,rfl⟩
  have hP:∀{said':aa Sd},yP said'/\said'.length<=c+1->Ply n (own.set x7.toNat x8) ((m_ own cuts z.2.2.1 x7 x8).foldl del (qR cuts z.2.2.1)) (lab.set (own.getD x7.toNat 0-1).toNat z.2.2.2) (nums.set (own.getD x7.toNat 0-1).toNat z.1) said' (ss.set (own.getD x7.toNat 0-1).toNat (L',z)) ((m_ own cuts z.2.2.1 x7 x8).foldl del g) (c+1):=by
   intro said' ui;have ay9:∀(j:Nat) (M:aa aD) (w:An),j≠(own.getD x7.toNat 0-1).toNat->ss[j]?=some (M,w)->∀e,e∈gE M->eG n e=true/\(own.getD e.1.toNat 0=(j:Int)+1/\own.getD e.2.toNat 0=(j:Int)+1)/\e.1≠x7/\e.2≠x7:=fun j M w hj hm e he=>by
    obtain ⟨s1,_,_,_,s5⟩:=h.sh j M w hm;have:=s5 e he;refine ⟨(kr s1.web.gr).1 e he,this,fun hc => ?_,fun hc => ?_⟩
    ·rw [hc] at this;omega
    ·rw [hc] at this;omega
   refine h.upd h1 hs hR hz hl ⟨o2,o3⟩ (MO _ _ akV) (fun e he => ?_) (fun e he => ?_) (fun j M w hj hm e he => ?_) (MO _ _ h.gr) (fun e => ?_) ui
   ·obtain ⟨p1,p2⟩:=(qK _ _).1 he;intro rJ;have cO:=ac9 e (hCg e p1);have hr:=fQ cO;have hI:(own.set x7.toNat x8).getD e.1.toNat 0≠x8:=fun h'=>p2 ((hIm e).2 ⟨p1,h',rJ▸h'⟩)
    have e1:=o1 _ (show 0<=e.1/\e.1<(n:Int) from ⟨hr.1,hr.2.1⟩);have e2:=o1 _ (show 0<=e.2/\e.2<(n:Int) from ⟨hr.2.2.1,hr.2.2.2.1⟩);by_cases h1':e.1=x7
    ·rw [if_pos h1'] at e1;exact hI e1
    ·by_cases BC:e.2=x7
     ·rw [if_pos BC] at e2;exact hI (rJ.trans e2)
     ·rw [if_neg h1'] at e1;rw [if_neg BC] at e2;rw [e1,e2] at rJ;rcases (hCm e).1 p1 with p1|p1
      ·exact h.cut e p1 rJ
      ·rcases ((XT e).1 p1).2 with h'|h'
       ·exact h1' h'
       ·exact BC h'
   ·obtain ⟨p1,p2⟩:=(axn e).1 he;have:=Jf e (FU e p1) ⟨fun h'=>p2 (.inl h'),fun h'=>p2 (.inr h')⟩;rw [this.1,this.2];exact FX e p1
   ·obtain ⟨p0,p1,p2⟩:=ay9 j M w hj hm e he;have:=Jf e p0 p2;rw [this.1,this.2];exact p1
   ·rw [qK,qK,hCm,h.split hs];constructor
    ·rintro ⟨p|p|p,p'⟩
     ·exact .inl ⟨.inl p,p'⟩
     ·by_cases hv:e.1=x7\/e.2=x7
      ·exact .inl ⟨.inr ((XT e).2 ⟨p,hv⟩),p'⟩
      ·exact .inr (.inl ((axn e).2 ⟨p,hv⟩))
     ·exact .inr (.inr p)
    ·rintro (⟨p|p,p'⟩|p|p)
     ·exact ⟨.inl p,p'⟩
     ·exact ⟨.inr (.inl ((XT e).1 p).1),p'⟩
     ·obtain ⟨p1,p2⟩:=(axn e).1 p;refine ⟨.inr (.inl p1),fun hI => ?_⟩;have:=Jf e (FU e p1) ⟨fun h'=>p2 (.inl h'),fun h'=>p2 (.inr h')⟩;have h3:=((hIm e).1 hI).2.1;rw [this.1,(FX e p1).1] at h3;exact hw h3
     ·refine ⟨.inr (.inr p),fun hI => ?_⟩;obtain ⟨j,M,w,hj,hm,he⟩:=p;obtain ⟨p0,p1,p2⟩:=ay9 j M w hj hm e he;rcases (hCm e).1 ((hIm e).1 hI).1 with p|p
      ·exact h.cut e p (p1.1.trans p1.2.symm)
      ·rcases ((XT e).1 p).2 with h'|h'
       ·exact p2.1 h'
       ·exact p2.2 h'
  unfold Rj;rw [if_pos rfl,if_pos rfl];unfold MJ;rw [if_pos Rx];by_cases h0:(m_ own cuts z.2.2.1 x7 x8).length=0
  ·rw [if_pos h0];have h0':=qW.1 h0;have hm:=XI (g:=g) (b:=x8) ha;rw [if_pos (aW.2 (by have:=h.k;omega))] at hm;have:=hP (sd h Km 1 (by omega));rw [h0'] at this;exact ⟨_,_,_,_,_,_,_,_,_,_,_,_,_,g,rfl,.idle this,.inl ⟨rfl,rfl,1,rfl,by rw [if_neg (by omega),hm],by omega,.inl (by rw [hm])⟩⟩
  ·rw [if_neg h0];refine ⟨_,_,_,_,_,_,_,_,_,_,_,_,_,g,rfl,.acc (hP (said':=said) ⟨h.sdo.1,by have:=h.sdo.2;omega⟩) hi Km ha (by rw [lX];exact hb) ⟨aGC,fun h'=>h0 (by rw [h'];rfl)⟩ (fun e he => ?_) h.gr (fun e => ?_),.inr ⟨rfl,by omega,rfl,rfl,rfl,rfl,rfl,rfl,rfl,rfl⟩⟩
   ·have:=(hIm e).1 he;exact ⟨this.2.1,this.2.2,fun h'=>((qK _ _).1 h').2 he⟩
   ·rw [qK];constructor
    ·intro he;by_cases hI:e∈m_ own cuts z.2.2.1 x7 x8
     ·exact .inr hI
     ·exact .inl ⟨he,hI⟩
    ·rintro (he|he)
     ·exact he.1
     ·exact hIg e he
 | acc h hi Km ha hb qB bq gP hg=>
  obtain ⟨hL,hy⟩:=h.sh _ _ _ hs;have uJ:(((x8-1).toNat:Nat):Int)+1=x8:=by omega
  obtain ⟨d1,_,_,_⟩:=hD.add (.inr rfl);have hm:=XI (g:=g) (b:=x8) ha;rw [if_pos (aW.2 (by have:=h.k;omega))] at hm;unfold Rj;rw [if_pos rfl,if_neg (by omega)];refine ⟨_,_,_,_,_,_,_,_,_,_,_,_,_,g,rfl,.idle (h.upd h1 hs hR hz hl h.owr h.cgr h.cut (fun e he => ?_) (fun j M w _ hj e he=>(h.sh j M w hj).2.2.2.2 e he) gP (fun e => ?_) (sd h Km 1 (by omega))),.inl ⟨rfl,rfl,1,rfl,by rw [if_neg (by omega),hm],by omega,.inl (by rw [hm])⟩⟩
  ·rcases (d1 e).1 he with he|he
   ·have:=hy.2.2.2 e he;rw [uJ] at this;exact this
   ·exact ⟨(bq e he).1,(bq e he).2.1⟩
  ·rw [hg,h.split hs,d1];constructor
   ·rintro ((h|h|h)|h)
    ·exact .inl h
    ·exact .inr (.inl (.inl h))
    ·exact .inr (.inr h)
    ·exact .inr (.inl (.inr h))
   ·rintro (h | (h|h)|h)
    ·exact .inl (.inl h)
    ·exact .inl (.inr (.inl h))
    ·exact .inr h
    ·exact .inl (.inr (.inr h))
end
def mst (n:Int) (g:aa Ed) (s:Sd):aa Ed:=if s.2.2.2.2.2=3 then g else (yO n g s.2.2.1 s.2.2.2.1 s.2.2.2.2.1).2.1
def ol (h:Hd):Int:=h.2.2.2.2.2.2.2.2.2.1
def lS (h:Hd):aa Sd:=h.2.2.2.2.2.2.2.2.2.2.2.2.2.2
def orO (h:Hd):Bn:=(h.2.2.2.2.2.2.2.2.2.2.1,h.2.2.2.2.2.2.2.2.2.2.2.1,h.2.2.2.2.2.2.2.2.2.2.2.2.1,h.2.2.2.2.2.2.2.2.2.2.2.2.2.1)
def qO (h:Hd):Int × Int × Int × Int:=(h.2.2.2.2.2.1,h.2.2.2.2.2.2.1,h.2.2.2.2.2.2.2.1,h.2.2.2.2.2.2.2.2.1)
abbrev flI (h:Hd) (t:Int):NE:=(h.1,h.2.1,h.2.2.1,h.2.2.2.1,h.2.2.2.2.1,h.2.2.2.2.2.1,h.2.2.2.2.2.2.1,h.2.2.2.2.2.2.2.1,h.2.2.2.2.2.2.2.2.1,h.2.2.2.2.2.2.2.2.2.1,h.2.2.2.2.2.2.2.2.2.2.1,h.2.2.2.2.2.2.2.2.2.2.2.1,h.2.2.2.2.2.2.2.2.2.2.2.2.1,h.2.2.2.2.2.2.2.2.2.2.2.2.2.1,h.2.2.2.2.2.2.2.2.2.2.2.2.2.2,t)
inductive HP (n:Nat):Hd->List Bv->List Ed->Nat->Prop
 | mk {own:List Int} {cuts:List Ed} {lab:List (List Int)} {nums:List Int} {said:List Sd} {ss:List Bv} {g:List Ed} {c:Nat} {x5 x6 x7 x8 x9 x10 x11:Int} {x12:List Ed} {x13:Int}
   (hp:Pnd n own cuts lab nums said ss g c x5 x6 x7 x8 x9 x10 x11 x12 x13) (hf:said.foldl (mst n) []=g) (hc:c<=80):HP n ((n:Int),own,cuts,lab,nums,x5,x6,x7,x8,x9,x10,x11,x12,x13,said) ss g c
section
variable {n:Nat} {own:aa Int} {cuts:aa Ed} {lab:aa (aa Int)} {nums:aa Int} {said:aa Sd} {ss:aa Bv} {g:aa Ed} {c:Nat} {x5 x6 x7 x8 x9 x10 x11:Int} {x12:aa Ed} {x13:Int}
theorem Ply.up (h:Ply n own cuts lab nums said ss g c):Ply n own cuts lab nums said ss g (c+1):=h.onw ⟨h.sdo.1,by have:=h.sdo.2;omega⟩
theorem Pnd.up (h:Pnd n own cuts lab nums said ss g c x5 x6 x7 x8 x9 x10 x11 x12 x13):Pnd n own cuts lab nums said ss g (c+1) x5 x6 x7 x8 x9 x10 x11 x12 x13:=by
 cases h with
 | idle h=>exact .idle h.up
 | chg h hi hs ho ha hb d_ hw=>exact .chg h.up hi hs ho ha hb d_ hw
 | rel h hi hs ha hb hw=>exact .rel h.up hi hs ha hb hw
 | acc h hi hs ha hb qB bq gP hg=>exact .acc h.up hi hs ha hb qB bq gP hg
theorem Pnd.x12l (h:Pnd n own cuts lab nums said ss g c x5 x6 x7 x8 x9 x10 x11 x12 x13):x12.length<=66:=by
 cases h with
 | idle h=>simp
 | chg h hi hs ho ha hb d_ hw=>simp
 | rel h hi hs ha hb hw=>simp
 | acc h hi hs ha hb qB bq gP hg=>exact Rn qB.1
theorem Ply.sz (h:Ply n own cuts lab nums said ss g c) (hc:c<=80) (hx:x12.length<=66):HdS ((n:Int),own,cuts,lab,nums,x5,x6,x7,x8,x9,x10,x11,x12,x13,said):=by
 obtain ⟨k1,k2,k3,k4⟩:=h.k;have hn:=h.n2;have ko:=Rn h.cgr;have hol:=h.owr.1;have hsl:=h.sdo.2;refine ⟨by show own.length<=12;omega,by show cuts.length<=132;omega,⟨by show lab.length<=3;omega,fun y hy => ?_⟩,by show nums.length<=3;omega,by show x12.length<=132;omega,by show said.length<=81;omega⟩;obtain ⟨j,hj,rfl⟩:=FZ.1 (show y∈lab from hy);have uh:j<ss.length:=by omega
 obtain ⟨_,_,_,s4,_⟩:=h.sh j _ _ (aT uh);rw [dw,aT hj] at s4;have s4:lab[j]=_:=s4;rw [s4,dV];omega
theorem HP.sz {h:Hd} (hp:HP n h ss g c):HdS h:=by
 cases hp with
 | mk hp hf hc=>
  obtain ⟨g',hP⟩:=hp.ply;exact hP.sz hc hp.x12l
theorem HP.up {h:Hd} (hp:HP n h ss g c) (hc:c<80):HP n h ss g (c+1):=by
 cases hp with
 | mk hp hf _=>exact .mk hp.up hf (by omega)
theorem HP.len {h:Hd} (hp:HP n h ss g c):h.1=n/\(2<=n/\n<=12)/\(1<=ss.length/\ss.length<=3)/\h.2.2.2.1.length=ss.length/\GrOk n g/\(lS h).foldl (mst n) []=g/\(lS h).length<=c/\c<=80:=by
 cases hp with
 | mk hp hf hc=>
  obtain ⟨g',hP⟩:=hp.ply;have hk:=hP.k;refine ⟨rfl,hP.n2,⟨hk.1,hk.2.1⟩,hk.2.2.1,?_,hf,hP.sdo.2,hc⟩;cases hp with
  | idle h=>exact h.gr
  | chg h=>exact h.gr
  | rel h=>exact h.gr
  | acc h hi hs ha hb qB bq gP hg=>exact gP
theorem HP.ok {h:Hd} (hp:HP n h ss g c):wz h=some (true,())/\Be h=some (true,()):=by
 have hs:=hp.sz;cases hp with
 | mk hp hf hc=>
  obtain ⟨b1,b2,b3,b4,b5,b6⟩:=hs.bd;have:=hp.hd hc;exact ⟨(Re _ _ _ _ _ _ _ _ _ _ _ _ _ _ _ b1 b2 b3 b5 b6).trans (by rw [this]),(Rf _ _ _ _ _ _ _ _ _ _ _ _ _ _ _ b1 b2 b3 b5 b6).trans (by rw [this])⟩
theorem aki {op a b v i:Int} {g':aa Ed} (hf:said.foldl (mst n) []=g) (h:Rpl n g op a b v g'):(said++[(i,i,op,a,b,v)]).foldl (mst n) []=g':=by
 rw [pR,hf];exact h.1.symm
theorem HP.take {h:Hd} (hp:HP n h ss g c) (hc:c<80) (i op a b:Int):∃(h':Hd) (told:Int) (g':aa Ed),tkU h i op a b=flI h' told/\HP n h' ss g' (c+1) /\
  ((told=0/\h'=h/\g'=g)\/sA (lS h) i<0/\ol h=0/\((told=1/\ol h'=0/\∃v,lS h'=lS h++[(i,i,op,a,b,v)]/\Rpl n g op a b v g')\/(told=2/\ol h'≠0/\lS h'=lS h/\g'=g/\qO h'=(i,op,a,b)))):=by
 have nk:=hp.up hc;cases hp with
 | @mk own cuts lab nums said _ _ _ x5 x6 x7 x8 x9 x10 x11 x12 x13 hp hf je=>
  show ∃(h':Hd) (told:Int) (g':aa Ed),VR (n:Int) own cuts lab nums x5 x6 x7 x8 x9 x10 x11 x12 x13 said i op a b=_/\_;unfold VR;by_cases aV:Fz (n:Int) own cuts lab nums x5 x6 x7 x8 x9 x10 x11 x12 x13 said i=true
  ·rw [if_pos aV];obtain ⟨_,z5,_,_,_,z9,_⟩:=SG aV;unfold Fz at aV;simp only [aU,decide_eq_true_eq,sV,decide_eq_false_iff_not] at aV;obtain ⟨_,hi,Km,_,_⟩:=aV;have hP:Ply n own cuts lab nums said ss g c:=by
    cases hp with
    | idle h=>exact h
    | chg h jB=>rw [z5] at jB;exact absurd jB (by decide)
    | rel h jB=>rw [z5] at jB;exact absurd jB (by decide)
    | acc h jB=>rw [z5] at jB;exact absurd jB (by decide)
   obtain ⟨cuts',t5,t6,t7,t8,t9,t10,t11,t12,t13,said',told,g',e1,e2,e3⟩:=au9 (op:=op) (a:=a) (b:=b) hP hi (by omega);rw [e1];refine ⟨((n:Int),own,cuts',lab,nums,t5,t6,t7,t8,t9,t10,t11,t12,t13,said'),told,g',rfl,.mk e2 ?_ (by omega),.inr ⟨by show sA said i<0;omega,z9,?_⟩⟩
   ·rcases e3 with ⟨_,_,v,rfl,hr⟩|⟨_,_,rfl,rfl,_⟩
    ·exact aki hf hr
    ·exact hf
   ·rcases e3 with ⟨r1,r2,v,r3,hr⟩|⟨r1,r2,r3,r4,r5,r6,r7,r8⟩
    ·exact .inl ⟨r1,r2,v,r3,hr⟩
    ·exact .inr ⟨r1,r2,r3,r4,by show (t5,t6,t7,t8)=_;rw [r5,r6,r7,r8]⟩
  ·rw [if_neg aV];exact ⟨_,0,g,rfl,nk,.inl ⟨rfl,rfl,rfl⟩⟩
theorem HP.hear {h:Hd} (hp:HP n h ss g c) (hb:ol h≠0) (hc:c<80):∃(L:aa aD) (y:An) (L':aa aD) (z:An) (h':Hd) (told:Int) (g':aa Ed),(1<=ol h/\ol h<=ss.length)/\ss[(ol h-1).toNat]?=some (L,y)/\ShR (ol h) n L y/\(orO h).2.2.1.length<=66 /\
  oZ ((ol h,(n:Int),L,y),orO h)=some (zZ (ol h) n L' z,())/\nK ((ol h,(n:Int),L,y),orO h)=some (zZ (ol h) n L' z,())/\ShR (ol h) n L' z/\qb n (orO h)=true/\qc n z=true /\
  heU h (ol h) z=flI h' told/\HP n h' (ss.set (ol h-1).toNat (L',z)) g' (c+1) /\
  ((told=1/\ol h'=0/\∃v,lS h'=lS h++[((qO h).1,(qO h).1,(qO h).2.1,(qO h).2.2.1,(qO h).2.2.2,v)]/\Rpl n g (qO h).2.1 (qO h).2.2.1 (qO h).2.2.2 v g')\/(told=2/\ol h'≠0/\lS h'=lS h/\g'=g/\qO h'=qO h/\(orO h).2.1=3/\(orO h').2.1=4)):=by
 cases hp with
 | @mk own cuts lab nums said _ _ _ x5 x6 x7 x8 x9 x10 x11 x12 x13 hp hf je=>
  have hb:x9≠0:=hb;obtain ⟨r1,L,y,r2,r3,r4,r5⟩:=hp.ord hb je;obtain ⟨g0,hP⟩:=hp.ply;obtain ⟨hR0,hy⟩:=hP.sh _ _ _ r2;have uJ:(((x9-1).toNat:Nat):Int)+1=x9:=by omega
  rw [uJ] at hR0;have aGD:=hp.x12l;rcases ars hR0 (x10,x11,x12,x13) (by simp only;omega) with ⟨_,_,q|q⟩|⟨_,_,_,q⟩|⟨_,_,L',z,o1,o2,hR,hD⟩
  ·rw [r3] at q;cases q
  ·exact absurd r4 q.2
  ·have q:x10=y.1:=q;omega
  obtain ⟨own',cuts',t5,t6,t7,t8,t9,t10,t11,t12,t13,said',told,g',e1,e2,e3⟩:=ava hp hb r1.1 r2 r4 hR hD;have hz1:z.1=x10:=hD.num;have hza:qc n z=true:=by
   rcases hR.an with VZ|⟨ha,_⟩
   ·unfold blA at VZ;simp only [aU,decide_eq_true_eq] at VZ;have:=hR0.len.2.2.2.1;omega
   ·exact ha
  have aV:FC (n:Int) own cuts lab nums x5 x6 x7 x8 x9 x10 x11 x12 x13 said x9 z=true:=by
   unfold FC;rw [hp.hd je,hza,aA hb,ak rfl,ak hz1];rfl
  have he:heU ((n:Int),own,cuts,lab,nums,x5,x6,x7,x8,x9,x10,x11,x12,x13,said) x9 z=flI ((n:Int),own',cuts',lab.set (x9-1).toNat z.2.2.2,nums.set (x9-1).toNat z.1,t5,t6,t7,t8,t9,t10,t11,t12,t13,said') told:=by
   show VS (n:Int) own cuts lab nums x5 x6 x7 x8 x9 x10 x11 x12 x13 said x9 z=_;unfold VS;rw [if_pos aV,e1]
  refine ⟨L,y,L',z,_,told,g',r1,r2,hR0,aGD,o1,o2,hR,r3,hza,he,.mk e2 ?_ (by omega),?_⟩
  ·rcases e3 with ⟨_,_,v,rfl,hr⟩|⟨_,_,rfl,rfl,_⟩
   ·exact aki hf hr
   ·exact hf
  ·rcases e3 with ⟨s1,s2,v,s3,hr⟩|⟨s1,s2,s3,s4,s5,s6,s7,s8,s9,s10⟩
   ·exact .inl ⟨s1,s2,v,s3,hr⟩
   ·exact .inr ⟨s1,s2,s3,s4,by show (t5,t6,t7,t8)=(x5,x6,x7,x8);rw [s5,s6,s7,s8],s9,s10⟩
end
theorem avb {n k:Nat} (hk:1<=k) (v:Int) (hv:0<=v/\v<n):1<=(Jd n k).getD v.toNat 0/\(Jd n k).getD v.toNat 0<=k:=by
 rw [gD (aAa (k:=k) (show v.toNat<n by omega))];have:=Nat.mod_lt v.toNat (show k > 0 from by omega);omega
theorem HP.new {n k:Nat} (h2:2<=n) (dQ:n<=12) (h1:1<=k) (h3:k<=3):HP n (hdN n k) (List.replicate k ([],(0,false,[],[]))) [] 0:=by
 refine .mk (.idle ⟨⟨h2,dQ⟩,by simp only [z_];exact ⟨h1,h3,trivial,trivial⟩,⟨ajS n k,fun v hv=>by rw [z_];exact avb h1 v hv⟩,akg ⟨h2,dQ⟩,fun e he=>(by cases he),fun j L y hj => ?_,akg ⟨h2,dQ⟩,fun e => ?_,⟨fun j hj=>absurd hj (by simp),by simp⟩⟩) rfl (by omega)
 ·have uK:=(bf hj).1;rw [z_] at uK;have:=eZ hj;rw [List.mem_replicate] at this;cases this.2;refine ⟨aCa (by omega) (by omega) dQ,?_,by simp,?_,fun e he=>by cases he⟩
  ·rw [dw,agp,if_pos uK];rfl
  ·rw [dw,agp,if_pos uK];rfl
 ·constructor
  ·intro h;cases h
  ·rintro (h|⟨j,L,y,hj,he⟩)
   ·cases h
   ·have:=eZ hj;rw [List.mem_replicate] at this;cases this.2;cases he
theorem avc (c:Bq) (hc:ky c) (n k i:Int) (hn:n<=1000000) (hk:k<=1000000):∃op a b c',O1 (c,n,k,i)=some ((i,op,a,b),c')/\ky c':=by
 show ∃op a b c',O0 BIG _=_/\_;rw [atu];obtain ⟨r0,c0,k0,o0⟩:=uV c [1,1,1,1,2,2,3,3,4] hc (by simp) (by simp);obtain ⟨r1,c1,k1,o1,_⟩:=jl c0 n o0 hn;obtain ⟨r2,c2,k2,o2,_⟩:=jl c1 n o1 hn;rw [k0,ae];simp only;rw [k1,ae];simp only;rw [k2,ae];simp only;have hx:∃c3 op a b,(bif decide (r0=(4:Int)) then Option.bind (fH (c2,k)) fun r3=>some (r3.2,(i,r0,r1,IntKind.wrap .i64 ((1:Int)+r3.1))) else some (c2,(i,r0,r1,r2)):ah (Bq × (Int × Int × Int × Int)))=some (c3,(i,op,a,b))/\ky c3:=by
  by_cases h:r0=4
  ·obtain ⟨r3,c3,k3,o3,_⟩:=jl c2 k o2 hk;rw [ak h,ai,k3,ae];exact ⟨_,_,_,_,rfl,o3⟩
  ·rw [aA h,ax];exact ⟨_,_,_,_,rfl,o2⟩
 obtain ⟨c3,op,a',b',hx,o3⟩:=hx;rw [hx,ae];simp only;obtain ⟨r5,c5,k5,o5,_⟩:=jl c3 30 o3 (by omega);rw [k5,ae];simp only;by_cases h0:r5=0
 ·obtain ⟨r6,c6,k6,o6⟩:=uV c5 [-1,n,11,12] o5 (by simp) (by simp);rw [ak h0,ai,k6,ae,ae];exact ⟨_,_,_,_,rfl,o6⟩
 rw [aA h0,ax];by_cases h1:r5=1
 ·obtain ⟨r6,c6,k6,o6⟩:=uV c5 [-1,0,n,12] o5 (by simp) (by simp);rw [ak h1,ai,k6,ae,ae];exact ⟨_,_,_,_,rfl,o6⟩
 rw [aA h1,ax];by_cases h2:r5=2
 ·obtain ⟨r6,c6,k6,o6⟩:=uV c5 [0,5] o5 (by simp) (by simp);rw [ak h2,ai,k6,ae,ae];exact ⟨_,_,_,_,rfl,o6⟩
 ·rw [aA h2,ax,ae];exact ⟨_,_,_,_,rfl,o5⟩
abbrev Shr:=Int × Int × List aD × An
def SLR (n:Nat) (S:aa Shr) (ss:aa Bv):Prop:=S.length=ss.length/\∀(j:Nat) (L:aa aD) (y:An),ss[j]?=some (L,y)->S[j]?=some ((j:Int)+1,(n:Int),L,y)
theorem SLR.at {n:Nat} {S:aa Shr} {ss:aa Bv} (h:SLR n S ss) {s:Int} (h1:1<=s) {L:aa aD} {y:An} (hs:ss[(s-1).toNat]?=some (L,y)):(s-1).toNat<S.length/\S[(s-1).toNat]?=some (s,(n:Int),L,y):=by
 have:=(bf hs).1;have h2:=h.2 _ _ _ hs;rw [show (((s-1).toNat:Nat):Int)+1=s from by omega] at h2;exact ⟨by have:=h.1;omega,h2⟩
theorem SLR.set {n:Nat} {S:aa Shr} {ss:aa Bv} (h:SLR n S ss) {s:Int} (h1:1<=s) (L:aa aD) (y:An):SLR n (S.set (s-1).toNat (s,(n:Int),L,y)) (ss.set (s-1).toNat (L,y)):=by
 refine ⟨by rw [lX,lX];exact h.1,fun j M w hj => ?_⟩;rw [Cr] at hj ⊢;by_cases uh:(s-1).toNat=j
 ·rw [if_pos uh] at hj ⊢;by_cases hl:(s-1).toNat<ss.length
  ·rw [if_pos hl] at hj;cases hj;rw [if_pos (by have:=h.1;omega),show (j:Int)+1=s from by omega]
  ·rw [if_neg hl] at hj;cases hj
 ·rw [if_neg uh] at hj ⊢;exact h.2 j M w hj
theorem aAp (h:Hd):Dm h=some (!decide (ol h=0),()):=acR _ _ _ _ _ _ _ _ _ _ _ _ _ _ _
abbrev flH (h:Hd) (b:Bool):Int × List Int × List (Int × Int) × List (List Int) × List Int × Int × Int × Int × Int × Int × Int × Int × List (Int × Int) × Int × List (Int × Int × Int × Int × Int × Int) × Bool:=(h.1,h.2.1,h.2.2.1,h.2.2.2.1,h.2.2.2.2.1,h.2.2.2.2.2.1,h.2.2.2.2.2.2.1,h.2.2.2.2.2.2.2.1,h.2.2.2.2.2.2.2.2.1,h.2.2.2.2.2.2.2.2.2.1,h.2.2.2.2.2.2.2.2.2.2.1,h.2.2.2.2.2.2.2.2.2.2.2.1,h.2.2.2.2.2.2.2.2.2.2.2.2.1,h.2.2.2.2.2.2.2.2.2.2.2.2.2.1,h.2.2.2.2.2.2.2.2.2.2.2.2.2.2,b)
theorem arw {N K:Nat} (n1:1<=N) (n2:N<=12) (k1:1<=K) (k2:K<=3):tL ((N:Int),(K:Int))=some (flH (hdN N K) true,()):=by
 have hm:maxLen=9223372036854775807:=by decide
 show CF BIG _=_;rw [Y1,dM,dM,aW.2 (by omega),aW.2 (by omega)];simp only [bC,ax,ae];have g1:∀(s0:Hd),s0.2.1=[]->∀F:(Hd × Int->ah Hd)->Hd × Int->ah Hd,
   (∀self (s:Hd) (i:Nat),i<N->s.2.1.length=i->F self (s,(i:Int))=self ((s.1,s.2.1++[1+Int.tmod (i:Int) K],s.2.2),((i+1:Nat):Int)))->(∀self s,F self (s,(N:Int))=some s) ->
   aK BIG F (s0,0)=some (s0.1,Jd N K,s0.2.2):=by
  intro s0 h0 F hF hE;rw [rangeLoop N (by omega) (fun i (s:Hd)=>s.2.1.length=i) (fun i s=>(s.1,s.2.1++[1+Int.tmod (i:Int) K],s.2.2)) id (by rw [h0];rfl) (fun i s _ h=>by simp [h]) (fun self s i hi h=>hF self s i hi h) (fun self s _=>hE self s),ajF,h0];rfl
 rw [ak (by omega),ai,ak (by omega),ai,g1 _ rfl]
 ·rw [ae,rangeLoop K (by omega) (fun i (s:Hd)=>s.2.2.2.1.length=i) (fun _ s=>(s.1,s.2.1,s.2.2.1,s.2.2.2.1++[qa N],s.2.2.2.2)) id rfl (fun i s _ h=>by simp [h])]
  ·rw [ajG];rfl
  ·intro self s i hi kK;simp only [show ((i:Int)<(K:Int)) from by omega,decide_true,ai];rw [Fv N [] (by omega) (fun e he=>by cases he) (by simp),ae,ak (by simp;omega),ai,bV (by omega)];rfl
  ·intro self s _;simp
 ·intro self s i hi hs;have:=ajH (i:=i) (k:=K) (by omega) (by omega);simp only [show ((i:Int)<(N:Int)) from by omega,decide_true,ai];rw [aA (by omega),ax,wr (by omega) (by omega),ak (by simp;omega),ai,bV (by omega)]
 ·intro self s;simp
theorem aw0 {h h':Hd} {i op a b told:Int} (e:tkU h i op a b=flI h' told) (ht:told≠0):ql h (1,i,op,a,b,0,0,false,[],[],0,0,[],0)=some h':=by
 have hx:Bt h (1,i,op,a,b,0,0,false,[],[],0,0,[],0)=G6 (tkU h i op a b):=by
  unfold Bt;rw [if_pos rfl]
 unfold ql;rw [hx,e];show (if told=0 then none else some _)=_;rw [if_neg ht];rfl
theorem aw1 {h h':Hd} {sh told:Int} {y:An} (e:heU h sh y=flI h' told) (ht:told≠0):ql h (2,0,0,0,0,sh,y.1,y.2.1,y.2.2.1,y.2.2.2,0,0,[],0)=some h':=by
 have hx:Bt h (2,0,0,0,0,sh,y.1,y.2.1,y.2.2.1,y.2.2.2,0,0,[],0)=G6 (heU h sh y):=by
  unfold Bt;rw [if_neg (show ¬(2:Int)=1 by omega),if_pos rfl]
 unfold ql;rw [hx,e];show (if told=0 then none else some _)=_;rw [if_neg ht];rfl
theorem VX (a:aa Sd) (h:a.length<=1048576):qH (a,a)=some (true,()):=by
 have hm:maxLen=9223372036854775807:=by decide
 show IZ BIG _=_;rw [alX,ak (rfl:(a.length:Int)=a.length)];simp only [bC,ax];refine dW (P:=fun o=>o=some (true,())) (fun (j:Int)=>∃i:Nat,j=(i:Int)/\i<=a.length) (fun j=>a.length-j.toNat) (fun _ b=>b=Sum.inl ()) (by simp only [BIG];omega) ⟨0,rfl,by omega⟩ (fun self s hx hs => ?_) (fun b hb=>by rw [hb]);obtain ⟨i,rfl,hi⟩:=hx;by_cases hl:i<a.length
 ·rw [ak (by omega),ai,aH hl,aT hl];simp only [ae,aH hl,aT hl,decide_true,wM,bC,ax];rw [bV (by omega)];exact hs _ ⟨i+1,rfl,by omega⟩ (by omega)
 ·rw [aA (by omega),ax];exact ⟨_,rfl,rfl⟩
theorem akj {S α:Type} (st:S->α->ah S):∀(a:aa α) (y:α) (s:S),fM st s (a++[y])=(fM st s a).bind fun s'=>st s' y
 | [],y,s=>by
  show (st s y).bind (fun s'=>some s')=st s y;cases st s y<;>rfl
 | x::a,y,s=>by
  rw [ny,fM,fM];cases st s x with
  | none=>rfl
  | some s'=>simp only [ae,akj st a y]
def RcB (r:Rc):Prop:=r.2.2.2.2.2.2.2.2.1.length<=66/\r.2.2.2.2.2.2.2.2.2.1.length<=12/\r.2.2.2.2.2.2.2.2.2.2.2.2.1.length<=66
def RcsB (l:aa Rc) (i:Nat):Prop:=l.length<=i/\∀r,r∈l->RcB r
theorem RcsB.add {l:aa Rc} {i:Nat} (h:RcsB l i) {r:Rc} (hr:RcB r):RcsB (l++[r]) (i+1):=by
 refine ⟨by rw [dR,bI,bS];have:=h.1;omega,fun x hx => ?_⟩;rcases bJ.1 hx with hx|hx
 ·exact h.2 x hx
 ·rw [cB.1 hx];exact hr
theorem RcsB.up {l:aa Rc} {i:Nat} (h:RcsB l i):RcsB l (i+1):=⟨by have:=h.1;omega,h.2⟩
theorem VY (c : Bq) (hc : ky c) (a : aa Int) (ha : a.length ≤ 1048576) (who : Int) : ∃ (n K : Nat) (h : Hd) (ss : aa Bv) (g : aa Ed) (k : Nat) (hr own : aa Rc) (c' : Bq),
    CW (c, a, who) = some (((n : Int), (K : Int), if 0 < who then own else hr), c') ∧ ky c' ∧ (2 ≤ n ∧ n ≤ 12) ∧ (1 ≤ K ∧ K ≤ 3) ∧ RcsB hr 40 ∧ RcsB own 40 ∧ HP n h ss g k ∧ fM ql (hdN n K) hr = some h := by
  have hm : maxLen = 9223372036854775807 := by decide
  show ∃ n K h ss g k hr own c', LK BIG _ = _ ∧ _;rw [aqt];obtain ⟨n0, c0, k0, o0, hn2, aGw⟩ := az4 c hc;obtain ⟨n, rfl⟩ : ∃ n : Nat, n0 = (n : Int) := ⟨n0.toNat, by omega⟩
  obtain ⟨r1, c1, k1, o1, a1, b1, _⟩ := jl c0 3 o0 (by omega);have b1 := b1 (by omega);obtain ⟨K, hK⟩ : ∃ K : Nat, 1 + r1 = (K : Int) := ⟨(1 + r1).toNat, by omega⟩
  rw [k0, ae];simp only;rw [k1, ae];simp only;rw [wr (n := 1 + r1) (by omega) (by omega), hK];rw [arw (by omega) (by omega) (by omega) (by omega), ae];simp only [flH];have hP0 := HP.new (n := n) (k := K) (by omega) (by omega) (by omega) (by omega);generalize hh0 : hdN n K = h0 at hP0 ⊢;refine dW (P := fun o => ∃ (n' K' : Nat) (h : Hd) (ss : aa Bv) (g : aa Ed) (k : Nat) (hr own : aa Rc) (c' : Bq), o = some (((n' : Int), (K' : Int), if 0 < who then own else hr), c') ∧ ky c' ∧ (2 ≤ n' ∧ n' ≤ 12) ∧ (1 ≤ K' ∧ K' ≤ 3) ∧ RcsB hr 40 ∧ RcsB own 40 ∧ HP n' h ss g k ∧ fM ql (hdN n' K') hr = some h)
    (fun (s : aa Shr × Int) => ∃ (i : Nat), s.2 = (i : Int) ∧ 1 ≤ i ∧ i ≤ K + 1 ∧ s.1.length + 1 = i ∧ ∀ j, j < s.1.length → s.1[j]? = some ((j : Int) + 1, (n : Int), [], (0, false, [], []))) (fun s => 8 - s.2.toNat)
    (fun _ (S : aa Shr) => S.length = K ∧ ∀ j, j < S.length → S[j]? = some ((j : Int) + 1, (n : Int), [], (0, false, [], []))) (by simp [BIG]) ⟨1, rfl, by omega, by omega, rfl, fun j hj => absurd hj (by simp)⟩ (fun self s hx hs => ?_) (fun b hb => ?_)
  · obtain ⟨S, j⟩ := s
    obtain ⟨i, h1, hi1, hi, hl, hS⟩ := hx
    simp only at h1 hl hS hs ⊢
    subst h1
    by_cases hik : i ≤ K
    · rw [ak (by omega), ai, VN, if_pos (by rw [aW.2 (by omega), aW.2 (by omega)]; rfl), ae]
      rw [ak (by simp only [bI, bS]; omega), ai, bV (by omega)]
      refine hs _ ⟨i + 1, rfl, by omega, by omega, by simp only [dR, bI, bS]; omega, fun j hj => ?_⟩ (by simp; omega)
      simp only [dR, bI, bS] at hj
      simp only
      by_cases uK : j < S.length
      · rw [rQ uK]
        exact hS j uK
      · rw [uZ (by omega), show j - S.length = 0 by omega, show (j : Int) + 1 = (i : Int) by omega]
        rfl
    · rw [aA (by omega), ax]
      exact ⟨_, rfl, by omega, hS⟩
  · obtain ⟨hS1, hS2⟩ := hb
    have aGE : SLR n b (List.replicate K ([], (0, false, [], []))) := by
      refine ⟨by rw [z_]; exact hS1, fun j L y hj => ?_⟩;have uK := (bf hj).1;rw [z_] at uK;have := eZ hj;rw [List.mem_replicate] at this;cases this.2;exact hS2 j (by omega)
    obtain ⟨v, s1, s2, s3⟩ := aru a ha
    have hv2 : Int.tdiv v 2 = v / 2 := Int.tdiv_eq_ediv_of_nonneg s2
    refine dW (P := fun o => ∃ (n' K' : Nat) (h : Hd) (ss : aa Bv) (g : aa Ed) (k : Nat) (hr own : aa Rc) (c' : Bq), o = some (((n' : Int), (K' : Int), if 0 < who then own else hr), c') ∧ ky c' ∧ (2 ≤ n' ∧ n' ≤ 12) ∧ (1 ≤ K' ∧ K' ≤ 3) ∧ RcsB hr 40 ∧ RcsB own 40 ∧ HP n' h ss g k ∧ fM ql (hdN n' K') hr = some h)
      (fun (s : Bq × Hd × aa Rc × aa Shr × aa Rc × Int) => ∃ (i : Nat) (ss : aa Bv) (g : aa Ed), s.2.2.2.2.2 = (i : Int) ∧ i ≤ 40 ∧ ky s.1 ∧ SLR n s.2.2.2.1 ss ∧ HP n s.2.1 ss g i ∧ RcsB s.2.2.1 i ∧ RcsB s.2.2.2.2.1 i ∧ fM ql h0 s.2.2.1 = some s.2.1) (fun s => 40 - s.2.2.2.2.2.toNat)
      (fun _ (b : Bq × aa Rc × aa Rc) => ∃ (h : Hd) (ss : aa Bv) (g : aa Ed) (k : Nat), ky b.1 ∧ HP n h ss g k ∧ RcsB b.2.1 40 ∧ RcsB b.2.2 40 ∧ fM ql h0 b.2.1 = some h) (by simp [BIG]) ⟨0, _, _, rfl, by omega, o1, aGE, hP0, ⟨by simp, fun r hr => (by cases hr)⟩, ⟨by simp, fun r hr => (by cases hr)⟩, rfl⟩ (fun self s hx hs => ?_) (fun b hb => ?_)
    · obtain ⟨cu, h, hl, S, own, j⟩ := s
      obtain ⟨i, ss, g, h1, hi, hcu, hSL, hP, hRh, V_, hF⟩ := hx
      simp only at h1 hcu hSL hP hRh V_ hF hs ⊢
      subst h1
      obtain ⟨r6, c6, k6, o6, a6, b6, b6'⟩ := jl cu (v / 2) hcu (by omega)
      rw [s1, ae, aA (by omega), ax]
      simp only
      rw [hv2, wr (n := v / 2) (by omega) (by omega), k6, ae]
      simp only
      have hr6 : r6 ≤ 30 := by
        by_cases h : 0 < v / 2
        · have := b6 h; omega
        · have := b6' (by omega); omega
      rw [wr (n := 2 + r6) (by omega) (by omega)]
      have up40 : ∀ {l : aa Rc}, RcsB l i → RcsB l 40 := fun h => ⟨by have := h.1; omega, h.2⟩
      by_cases hiv : (i : Int) < 2 + r6
      case neg =>
        rw [aA hiv, ax];exact ⟨_, rfl, h, ss, g, i, o6, hP, up40 hRh, up40 V_, hF⟩
      rw [ak hiv, ai]
      have hz := hP.sz
      have bP := hP.len
      have hlh := hRh.1
      have hlo := V_.1
      rw [aAp h, ae]
      by_cases hb : ol h = 0
      · rw [ak hb]
        simp only [bC, ib, ai]
        rw [bV (by omega)]
        obtain ⟨op, a', b', c7, k7, o7⟩ := avc c6 o6 (n : Int) (K : Int) ((i + 1 : Nat) : Int) (by omega) (by omega)
        rw [k7, ae]
        simp only
        rw [aoj hz, ae]
        obtain ⟨h', told, g', e1, e2, _⟩ := hP.take (by omega) ((i + 1 : Nat) : Int) op a' b'
        rw [e1]
        have hx : ∃ (h2 : Hd) (bb : Bool), (bif !decide (told = (0 : Int)) then
          bif decide ((0 : Int) ≤ a') then
           some (h', decide ((0 : Int) ≤ b'))
          else some (h', false)
         else some (h', false) : ah (Hd × Bool)) = some (h2, bb) ∧ h2 = h' ∧ (bb = true → told ≠ 0) := by
          by_cases ht : told = 0
          · rw [ak ht]
            exact ⟨h', false, rfl, rfl, fun h => by cases h⟩
          · rw [aA ht]
            by_cases h0' : 0 ≤ a'
            · rw [ak h0']
              exact ⟨h', _, rfl, rfl, fun _ => ht⟩
            · rw [aA h0']
              exact ⟨h', _, rfl, rfl, fun _ => ht⟩
        obtain ⟨h2, bb, hx, hh2, hbt⟩ := hx
        subst hh2
        simp only [flI]
        rw [hx, ae]
        simp only
        cases bb with
        | false =>
          simp only [ax, ae];exact hs _ ⟨i + 1, ss, g, rfl, by omega, o7, hSL, hP.up (by omega), hRh.up, V_.up, hF⟩ (by simp; omega)
        | true =>
          simp only [ai];rw [ak (by simp only [bI, bS]; omega), ai, ae, ae];refine hs _ ⟨i + 1, ss, g', rfl, by omega, o7, hSL, e2, hRh.add ⟨by simp, by simp, by simp⟩, V_.up, ?_⟩ (by simp; omega);simp only;rw [akj, hF, ae];exact aw0 e1 (hbt rfl)
      · rw [aA hb]
        simp only [ib, bC, ax]
        obtain ⟨L, y, L', z, h', told, g', q1, q2, q3, q4, q5, q6, q7, q8, q9, q10, q11, q12⟩ := hP.hear hb (by omega)
        obtain ⟨p1, p2⟩ := hSL.at q1.1 q2
        have hzl := q7.len
        have q6' : nK ((ol h, (n : Int), L, y), (h.2.2.2.2.2.2.2.2.2.2.1, h.2.2.2.2.2.2.2.2.2.2.2.1, h.2.2.2.2.2.2.2.2.2.2.2.2.1, h.2.2.2.2.2.2.2.2.2.2.2.2.2.1)) = some (zZ (ol h) n L' z, ()) := q6
        have hw1 : IntKind.wrap .i64 (h.2.2.2.2.2.2.2.2.2.1 - 1) = ol h - 1 := wr (n := ol h - 1) (by omega) (by omega)
        rw [hw1, bW (by omega) (by omega), p2, ae, q6', ae, bW (by omega) (by omega), p2, ae]
        have aZ : told ≠ 0 := by
          rcases q12 with ⟨r, _⟩ | ⟨r, _⟩ <;> omega
        have FX : ∃ own', (bif decide (h.2.2.2.2.2.2.2.2.2.1 = who) then
        bif decide (own.length + ([((3 : Int), (0 : Int), (0 : Int), (0 : Int), (0 : Int), (0 : Int), (0 : Int), false, ([] : aa (Int × Int)), ([] : aa Int), h.2.2.2.2.2.2.2.2.2.2.1, h.2.2.2.2.2.2.2.2.2.2.2.1, h.2.2.2.2.2.2.2.2.2.2.2.2.1, h.2.2.2.2.2.2.2.2.2.2.2.2.2.1)]).length ≤ 4294967296) then
         some (own ++ ([((3 : Int), (0 : Int), (0 : Int), (0 : Int), (0 : Int), (0 : Int), (0 : Int), false, [], [], h.2.2.2.2.2.2.2.2.2.2.1, h.2.2.2.2.2.2.2.2.2.2.2.1, h.2.2.2.2.2.2.2.2.2.2.2.2.1, h.2.2.2.2.2.2.2.2.2.2.2.2.2.1)]))
        else none
       else some own : ah (aa Rc)) = some own' ∧ RcsB own' (i + 1) := by
          by_cases hw : h.2.2.2.2.2.2.2.2.2.1 = who
          · rw [ak hw, ai, ak (by simp only [bI, bS]; omega), ai]
            exact ⟨_, rfl, V_.add ⟨by simp, by simp, q4⟩⟩
          · rw [aA hw, ax]
            exact ⟨_, rfl, V_.up⟩
        obtain ⟨own', FX, aGF⟩ := FX
        rw [FX, ae]
        have hh : zz (h, h.2.2.2.2.2.2.2.2.2.1, ((zZ (ol h) (n : Int) L' z).2.2.2.2.2.2.2.1, (zZ (ol h) (n : Int) L' z).2.2.2.2.2.2.2.2.1, (zZ (ol h) (n : Int) L' z).2.2.2.2.2.2.2.2.2.1, (zZ (ol h) (n : Int) L' z).2.2.2.2.2.2.2.2.2.2.1)) = some (flI h' told, ()) := (aok hz (ol h) z (by omega) (by omega)).trans (by rw [q10])
        rw [hh, ae, ak (by simp only [bI, bS]; omega), ai, ae]
        simp only
        rw [bV (by omega)]
        refine hs _ ⟨i + 1, ss.set (ol h - 1).toNat (L', z), g', rfl, by omega, o6, hSL.set q1.1 L' z, q11, hRh.add ⟨by show z.2.2.1.length ≤ 66; omega, by show z.2.2.2.length ≤ 12; omega, by simp⟩, aGF, ?_⟩ (by simp; omega)
        simp only
        rw [akj, hF, ae]
        exact aw1 q10 aZ
    · obtain ⟨cu, hr, own⟩ := b
      obtain ⟨h, ss, g, k, q1, q2, q3, q4, q5⟩ := hb
      simp only at q1 q3 q4 q5 ⊢
      by_cases hw : 0 < who
      · rw [ak hw, ai]
        exact ⟨n, K, h, ss, g, k, hr, own, cu, by rw [if_pos hw], q1, by omega, by omega, q3, q4, q2, by rw [hh0]; exact q5⟩
      · rw [aA hw, ax]
        exact ⟨n, K, h, ss, g, k, hr, own, cu, by rw [if_neg hw], q1, by omega, by omega, q3, q4, q2, by rw [hh0]; exact q5⟩
theorem aAq {h h':Hd} {r:Rc} (e:ql h r=some h'):∃t,lS h'=lS h++t:=by
 obtain ⟨x0,x1,x2,x3,x4,x5,x6,x7,x8,x9,x10,x11,x12,x13,x14⟩:=h;have tk:∀i op a b,∃t,lS (G6 (VQ x0 x1 x2 x3 x4 x14 i op a b)).2=x14++t:=by
  intro i op a b;unfold VQ tkE
  (repeat' split)<;>first|exact ⟨[_],rfl⟩|exact ⟨[],(nz _).symm⟩
 have he:∀(y3:aa (aa Int)) (y4:aa Int) i op a b q ok es,∃t,lS (G6 (Rj x0 x1 x2 y3 y4 x14 i op a b q ok es)).2=x14++t:=by
  intro y3 y4 i op a b q ok es;unfold Rj MJ
  (repeat' split)<;>first|exact ⟨[_],rfl⟩|exact ⟨[],(nz _).symm⟩
 unfold ql at e;split at e
 ·cases e
 ·cases e;unfold Bt;split
  ·show ∃t,lS (G6 (VR x0 x1 x2 x3 x4 x5 x6 x7 x8 x9 x10 x11 x12 x13 x14 _ _ _ _)).2=x14++t;unfold VR;split
   ·exact tk _ _ _ _
   ·exact ⟨[],(nz _).symm⟩
  ·split
   ·show ∃t,lS (G6 (VS x0 x1 x2 x3 x4 x5 x6 x7 x8 x9 x10 x11 x12 x13 x14 _ _)).2=x14++t;unfold VS;split
    ·exact he _ _ _ _ _ _ _ _ _
    ·exact ⟨[],(nz _).symm⟩
   ·exact ⟨[],(nz _).symm⟩
theorem avd:∀(l:aa Rc) (h h':Hd),fM ql h l=some h'->∃t,lS h'=lS h++t
 | [],h,h',e=>by
  simp only [fM,aO] at e;rw [e];exact ⟨[],(nz _).symm⟩
 | y::l,h,h',e=>by
  rw [fM] at e;cases hy:ql h y with
  | none=>rw [hy] at e;cases e
  | some h1=>
   rw [hy] at e;obtain ⟨t,ht⟩:=aAq hy;obtain ⟨u,hu⟩:=avd l h1 h' e;exact ⟨t++u,by rw [hu,ht,lW]⟩
theorem ave {S α:Type} (st:S->α->ah S):∀(l:aa α) (s s':S) (k:Nat),fM st s l=some s'->∃s1,fM st s (l.take k)=some s1/\fM st s1 (l.drop k)=some s'
 | l,s,s',0,e=>⟨s,rfl,e⟩
 | [],s,s',k+1,e=>⟨s,rfl,e⟩
 | y::l,s,s',k+1,e=>by
  rw [fM] at e;cases hy:st s y with
  | none=>rw [hy] at e;cases e
  | some s2=>
   rw [hy] at e;obtain ⟨s1,e1,e2⟩:=ave st l s2 s' k e;exact ⟨s1,by rw [Ab,fM,hy];exact e1,e2⟩
theorem avf {n K:Nat} {rs:aa Rc} {h:Hd} (hn:2<=n/\n<=12) (hK:1<=K/\K<=3) (e:fM ql (hdN n K) rs=some h):hfF (n:Int) (K:Int) rs=fl h true:=by
 have:NF (n:Int) (K:Int) rs=some h:=by
  unfold NF;rw [if_pos (by rw [aW.2 (by omega),aW.2 (by omega)];rfl),iB,iB];exact e
 unfold hfF;rw [this]
theorem XJ (a:aa Int) (ha:a.length<=1048576):∃(n:Int) (l:aa Rc),vN a=some (((1:Int),n,l),())/\RcO l:=by
 have hm:maxLen=9223372036854775807:=by decide
 show ∃n l,vM BIG _=_/\_;rw [Xn];obtain ⟨c,k0,hc⟩:=Ra a ha;obtain ⟨n,K,h,ss,g,k,hr,own,c1,k1,o1,hn,hK,hRh,V_,hP,hF⟩:=VY c hc a ha 1;rw [if_pos (by omega)] at k1;rw [k0,ae];simp only;rw [k1,ae];simp only;obtain ⟨hl,hB⟩:=V_;have hO:RcO own:=⟨by omega,fun y hy=>by have:=(hB y hy).2.2;omega⟩
 have hx:∃(c2:Bq) (b:Bool),(bif decide ((0:Int)<(own.length:Int)) then Option.bind (xU (c1,(5:Int))) fun r2=>some (r2.2,r2.1) else some (c1,false):ah (Bq × Bool))=some (c2,b)/\ky c2/\(b=true->0<own.length):=by
  by_cases h4:(0:Int)<(own.length:Int)
  ·rw [ak h4,ai];obtain ⟨b,c',q1,q2⟩:=aq6 c1 5 o1 (by omega);rw [q1,ae];exact ⟨_,_,rfl,q2,fun _=>by omega⟩
  ·rw [aA h4,ax];exact ⟨_,_,rfl,o1,fun h=>by cases h⟩
 obtain ⟨c2,b,hx,o2,hb⟩:=hx;rw [hx,ae];simp only;cases b with
 | false=>
  rw [ax,ae];exact ⟨_,_,rfl,hO⟩
 | true=>
  have hp:=hb rfl;obtain ⟨r,c3,k3,o3,a3,b3,_⟩:=jl c2 (own.length:Int) o2 (by omega);have b3:=b3 (by omega);have hw:IntKind.wrap .i64 (r+1)=r+1:=wr (by omega) (by omega);rw [ai,k3,ae];simp only [hw];have t1:(List.take (Int.toNat r-0) (List.drop 0 own)).length<=40:=by rw [iD,sZ];omega
  have t2:(List.take (own.length-Int.toNat (r+1)) (List.drop (Int.toNat (r+1)) own)).length<=40:=by rw [iD,sZ];omega
  rw [ak a3,ai,ak (show 0<=Int.toNat r/\Int.toNat r<=own.length from ⟨by omega,by omega⟩),ai,ak (show 0+(List.take (Int.toNat r-0) (List.drop 0 own)).length<=4294967296 by omega),ai,ak (show (0:Int)<=r+1 by omega),ai,ak (show Int.toNat (r+1)<=own.length/\own.length<=own.length from ⟨by omega,eY _⟩),ai,ak (show (([]:aa Rc)++List.take (Int.toNat r-0) (List.drop 0 own)).length+(List.take (own.length-Int.toNat (r+1)) (List.drop (Int.toNat (r+1)) own)).length<=4294967296 by rw [gX];omega),ai,ae];refine ⟨_,_,rfl,by rw [gX,dR];omega,fun y hy => ?_⟩;rw [gX] at hy;rcases bJ.1 hy with hy|hy
  ·exact hO.2 y (List.mem_of_mem_drop (List.mem_of_mem_take hy))
  ·exact hO.2 y (List.mem_of_mem_drop (List.mem_of_mem_take hy))
theorem aAr (a b:Int) (rs:aa Rc) (hz:RcO rs):(sfF (sfO a b rs)).2.2.1.length<=1048576:=by
 cases hO:sfO a b rs with
 | none=>simp [sfF]
 | some S=>
  unfold sfO at hO;split at hO
  ·have:=aj7 rs _ S hz.2 ⟨by simp,by simp,by simp⟩ hO;exact this.1
  ·cases hO
theorem ac5 (a:aa Int) (h:a.length<=maxLen):Q4 a=some (true,()):=by
 have hm:maxLen=9223372036854775807:=by decide
 show Fq BIG _=_;rw [ajx,aBU,ae];by_cases ha:a.length<=1048576;case neg=>rw [ak (by omega)];rfl
 rw [aA (by omega),ax];obtain ⟨c,k0,hc⟩:=Ra a ha;obtain ⟨n,K,hd,ss,g,k,hr,own,c1,k1,o1,hn,hK,hRh,V_,hP,hF⟩:=VY c hc a ha 0;rw [if_neg (by omega)] at k1;have e1:zD a=some (((n:Int),(K:Int),hr),()):=by
  show zB BIG _=_;rw [acF,k0,ae];simp only;rw [k1,ae]
 obtain ⟨hl,hB⟩:=hRh;have hS:∀l:aa Rc,(∀y,y∈l->y∈hr)->l.length<=40->RcS l:=fun l hs hl=>⟨by omega,fun y hy=>by
  have:=hB y (hs y hy)
  exact ⟨by have:=this.1;omega,by have:=this.2.1;omega⟩⟩
 have wi:=VU (n:Int) (K:Int) hr (hS hr (fun _ h=>h) hl);have ws:=amk (n:Int) (K:Int) hr (hS hr (fun _ h=>h) hl);rw [avf hn hK hF] at wi ws;obtain ⟨p,k2,hp,Ru⟩:=agl a ha;have NP:0<p.length:=by omega
 have hpb:=Ru _ (nM NP);have b0:∀{β:Type} (F:Nat->ah β),bnd p.length (0:Int) F=F 0:=fun F=>aH (i:=0) NP
 have hz:=hP.sz;have s1:qH (hd.2.2.2.2.2.2.2.2.2.2.2.2.2.2,hd.2.2.2.2.2.2.2.2.2.2.2.2.2.2)=some (true,()):=VX _ (by have:=hz.f;omega);have s2:=ajD hd.2.2.1 hd.2.2.1 (by have:=hz.b;omega);have s3:=amh hd.2.1 hd.2.1 (by have:=hz.a;omega);rw [ak rfl] at s2 s3;have ok1:=hP.ok.1;rw [e1,ae];simp only;rw [wi,ae,ws,ae];simp only [fl,bC,ax,s1,s2,s3,ae];rw [ok1];simp only [ae,bC,ax];rw [k2,ae];simp only;rw [b0,aT NP,ae,wr (n:=(hr.length:Int)+1) (by omega) (by omega),aA (show ¬((hr.length:Int)+1=0) by omega),ax];have hv1:=Int.tmod_nonneg ((hr.length:Int)+1) hpb.1;have hv2:=Int.tmod_lt_of_pos p[0] (show (0:Int)<(hr.length:Int)+1 by omega);generalize Int.tmod p[0] ((hr.length:Int)+1)=v at hv1 hv2 ⊢;obtain ⟨h1,f1,f2⟩:=ave ql hr (hdN n K) hd (Int.toNat v) hF;obtain ⟨t,ht⟩:=avd _ _ _ f2;have wi2:=VU (n:Int) (K:Int) (hr.take (Int.toNat v)) (hS _ (fun y hy=>List.mem_of_mem_take hy) (by rw [iD];omega));rw [avf hn hK f1] at wi2;have hsl:(lS h1).length<=(lS hd).length:=by rw [ht,dR];omega
 have aGG:h1.2.2.2.2.2.2.2.2.2.2.2.2.2.2=lS h1:=rfl;have aGH:hd.2.2.2.2.2.2.2.2.2.2.2.2.2.2=lS hd:=rfl;have aIC:(lS hd).length<=81:=hz.f;have s4:qH (lS h1,List.take ((Int.toNat ((lS h1).length:Int))-0) (List.drop 0 (lS hd)))=some (true,()):=by
  rw [iB,rR,tu,ht,List.take_left];exact VX _ (by omega)
 rw [ak hv1,ai,ak (show 0<=Int.toNat v/\Int.toNat v<=hr.length from ⟨by omega,by omega⟩),ai,rR,tu,wi2,ae];simp only [fl,bC,ax,aGG,aGH];rw [aA (show ¬((lS hd).length:Int)<((lS h1).length:Int) by omega),ax,ak (show (0:Int)<=((lS h1).length:Int) by omega),ai,ak (show 0<=(Int.toNat ((lS h1).length:Int))/\(Int.toNat ((lS h1).length:Int))<=(lS hd).length from ⟨by omega,by omega⟩),ai,s4];simp only [ae,bC,ax];obtain ⟨m,l,k3,hO⟩:=XJ a ha;have hw:=aAr 1 m l hO;rw [k3,ae];simp only;rw [aj8 1 m l hO,ae,aj9 1 m l hO,ae];simp only [beq_self_eq_true,ai];rw [arv ((sfF (sfO 1 m l)).2.1,(sfF (sfO 1 m l)).2.2.1) hw];rfl
end Go.Fw
