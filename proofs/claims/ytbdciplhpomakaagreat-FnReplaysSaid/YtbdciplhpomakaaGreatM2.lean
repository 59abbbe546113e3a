/- What the given functions come to. No conditions. -/
import Derived.Test.YtbdciplhpomakaaGreatM1
set_option linter.unusedSectionVars false
namespace Go.Fw
abbrev kR:=Int × Int × List aC × An
abbrev ObV:=Int × Int × List aC × Int × Bool × List Ed × List Int × Int × Bool × List Ed × List Int × Int
noncomputable def OB (S:kR) (o:Be):ObV:=((oM (S,o)).getD ((0,0,[],0,false,[],[],0,false,[],[],0),())).1
def shO (r:ObV):kR:=(r.1,r.2.1,r.2.2.1,r.2.2.2.1,r.2.2.2.2.1,r.2.2.2.2.2.1,r.2.2.2.2.2.2.1)
def Vy (S:kR):Prop:=S.2.2.1.length<=1048576/\S.2.2.2.2.2.1.length<=1048576/\S.2.2.2.2.2.2.length<=1048576
theorem aqW {S:kR} {o:Be} (h:Vy S) (ho:o.2.2.1.length<=1048576):oM (S,o)=some (OB S o,())/\nG (S,o)=some (OB S o,())/\Vy (shO (OB S o))/\(OB S o).2.2.2.2.2.2.2.2.2.1.length<=1048576/\(OB S o).2.2.2.2.2.2.2.2.2.2.1.length<=1048576:=by
 obtain ⟨x0,n,L,y⟩:=S;obtain ⟨h1,h2,h3⟩:=h;obtain ⟨a,b,M,z,z',e,w1,w2,lM,⟨l5,l6⟩,l7,l8⟩:=aBB x0 n L y o h1 h2 h3 ho;have:OB (x0,n,L,y) o=(a,b,M,z.1,z.2.1,z.2.2.1,z.2.2.2,z'.1,z'.2.1,z'.2.2.1,z'.2.2.2,e):=by
  unfold OB;rw [w1];rfl
 rw [this];exact ⟨w1,w2,⟨lM,l5,l6⟩,l7,l8⟩
def GR (y:Rc):Be:=y.2.2.2.2.2.2.2.2.2.2
noncomputable def x_ (S:kR) (y:Rc):ah kR:=if y.1=3/\(OB S (GR y)).2.2.2.2.2.2.2.2.2.2.2=0 then some (shO (OB S (GR y))) else none
theorem aDn {S S':kR} {y:Rc} (h:Vy S) (hy:y.2.2.2.2.2.2.2.2.2.2.2.2.1.length<=1048576) (e:x_ S y=some S'):Vy S':=by
 unfold x_ at e;split at e
 ·cases e;exact (aqW h hy).2.2.1
 ·cases e
theorem ajN:∀(l:aa Rc) (S S':kR),(∀y,y∈l->y.2.2.2.2.2.2.2.2.2.2.2.2.1.length<=1048576)->Vy S->fM x_ S l=some S'->Vy S'
 | [],S,S',_,hs,e=>by
  simp only [fM,aN] at e;rw [<-e];exact hs
 | y::l,S,S',hl,hs,e=>by
  rw [fM] at e;cases hy:x_ S y with
  | none=>rw [hy] at e;cases e
  | some S1=>
   rw [hy] at e;exact ajN l S1 S' (fun z hz=>hl z (dQ _ hz)) (aDn hs (hl y (dW ..)) hy) e
noncomputable def sfO (a b:Int) (rs:aa Rc):ah kR:=if (aW a 1 3&&aW b 1 12)=true then fM x_ (a,b,[],0,false,[],[]) rs else none
def sfF (o:ah kR):Int × Int × aa aC × Int × Bool × aa Ed × aa Int × Bool:=match o with|none=>(0,0,[],0,false,[],[],false)|some S=>(S.1,S.2.1,S.2.2.1,S.2.2.2.1,S.2.2.2.2.1,S.2.2.2.2.2.1,S.2.2.2.2.2.2,true)
def RcO (rs:aa Rc):Prop:=rs.length<=1048576/\∀y,y∈rs->y.2.2.2.2.2.2.2.2.2.2.2.2.1.length<=1048576
def zS9q:kR:=(0,0,[],0,false,[],[])
theorem ajO (a b:Int) (rs:aa Rc) (hz:RcO rs):EW (a,b,rs)=some (sfF (sfO a b rs),()):=by
 have hm:maxLen=9223372036854775807:=by decide
 obtain ⟨hz1,hz2⟩:=hz;show EU BIG _=_;rw [ai9,alQ,af];unfold sfO;by_cases hc:(aW a 1 3&&aW b 1 12)=true;case neg=>
  rw [if_neg hc,if_neg hc];rfl
 rw [if_pos hc,if_pos hc];simp only [bB,ax];have hB0:Vy (a,b,[],0,false,[],[]):=⟨by simp,by simp,by simp⟩
 have key:=pR (F:=fun (self2:kR × kR × Int->ah ((kR × kR) ⊕ (kR × Bool))) (x1:kR × kR × Int)=>
  bif decide (x1.2.2<(rs.length:Int)) then
   Option.bind (bnd rs.length x1.2.2 fun n3=>
    Option.bind rs[n3]? fun y4=>
    Option.bind (oM (x1.2.1,y4.2.2.2.2.2.2.2.2.2.2)) fun r5=>
    Option.bind (bif !decide (y4.1=(3:Int)) then
     some true
     else some (!decide (r5.1.2.2.2.2.2.2.2.2.2.2.2=(0:Int))):ah (Bool)) fun x6=>
    bif x6 then
     some (Sum.inr (((0:Int),(0:Int),[],(0:Int),false,[],[]),false))
    else some (Sum.inl (x1.1,(r5.1.1,r5.1.2.1,r5.1.2.2.1,r5.1.2.2.2.1,r5.1.2.2.2.2.1,r5.1.2.2.2.2.2.1,r5.1.2.2.2.2.2.2.1))):ah ((kR × kR) ⊕ (kR × Bool))) fun y=>match y with
   | .inl x7=>
    self2 (x7.1,x7.2,IntKind.wrap .i64 (x1.2.2+(1:Int)))
   | .inr x7=>
    some (Sum.inr (x7.1,x7.2))
  else some (Sum.inl (x1.1,x1.2.1)))
  (fun x=>∃(i:Nat) (S:kR),i<=rs.length/\x=(zS9q,S,(i:Int))/\Vy S) (fun x=>rs.length-x.2.2.toNat)
  (fun x r=>∀(i:Nat) (S:kR),x=(zS9q,S,(i:Int))->r=(match fM x_ S (rs.drop i) with|none=>Sum.inr (zS9q,false)|some S'=>Sum.inl (zS9q,S')))
  (fun self x ⟨i,S,hi,hx,hS⟩ hs=>by
   subst hx
   simp only at hs ⊢
   have uniq:∀{i':Nat} {S':kR},((zS9q,S,(i:Int)):kR × kR × Int)=(zS9q,S',(i':Int))->i'=i/\S'=S:=fun h=>by
    simp only [di,true_and] at h
    exact ⟨by omega,h.1.symm⟩
   by_cases hl:i<rs.length
   ·have hy:=hz2 _ (nH hl)
    obtain ⟨o1,_,o3,_,_⟩:=aqW (S:=S) (o:=GR rs[i]) hS (by exact hy)
    have hd:rs.drop i=rs[i]::rs.drop (i+1):=uU hl
    simp only [show ((i:Int)<(rs.length:Int)) from by omega,decide_true,ai]
    rw [aF hl,aR hl,af,show rs[i].2.2.2.2.2.2.2.2.2.2=GR rs[i] from rfl,o1,af,bT (by omega)]
    by_cases c1:rs[i].1=3
    ·by_cases c2:(OB S (GR rs[i])).2.2.2.2.2.2.2.2.2.2.2=0
     ·rw [ak c1,ak c2]
      obtain ⟨r,g1,g2⟩:=hs (zS9q,shO (OB S (GR rs[i])),((i+1:Nat):Int)) ⟨i+1,_,hl,rfl,o3⟩ (by simp;omega)
      refine ⟨r,g1,fun i' S' h => ?_⟩
      obtain ⟨rfl,rfl⟩:=uniq h
      rw [g2 _ _ rfl,hd,fM,show x_ S' rs[i']=some (shO (OB S' (GR rs[i']))) from by unfold x_;rw [if_pos ⟨c1,c2⟩]]
      rfl
     ·rw [ak c1,az c2]
      refine ⟨_,rfl,fun i' S' h => ?_⟩
      obtain ⟨rfl,rfl⟩:=uniq h
      rw [hd,fM,show x_ S' rs[i']=none from by unfold x_;rw [if_neg (fun h=>c2 h.2)]]
      rfl
    ·rw [az c1]
     refine ⟨_,rfl,fun i' S' h => ?_⟩
     obtain ⟨rfl,rfl⟩:=uniq h
     rw [hd,fM,show x_ S' rs[i']=none from by unfold x_;rw [if_neg (fun h=>c1 h.1)]]
     rfl
   ·simp only [show ¬((i:Int)<(rs.length:Int)) from by omega,decide_false,ax]
    refine ⟨_,rfl,fun i' S' h => ?_⟩
    obtain ⟨rfl,rfl⟩:=uniq h
    have:i'=rs.length:=by omega
    subst this
    rw [List.drop_length,fM])
  (n:=BIG) (x:=(zS9q,(a,b,[],0,false,[],[]),((0:Nat):Int))) (by simp [BIG];omega) ⟨0,_,by omega,rfl,hB0⟩
 obtain ⟨r,g1,g2⟩:=key;refine (Dg g1 _).trans ?_;rw [g2 0 _ rfl,uI];cases fM x_ (a,b,[],0,false,[],[]) rs<;>rfl
theorem ajP (a b:Int) (rs:aa Rc) (hz:RcO rs):EY (a,b,rs)=some (sfF (sfO a b rs),()):=by
 have hm:maxLen=9223372036854775807:=by decide
 obtain ⟨hz1,hz2⟩:=hz;show EX BIG _=_;rw [aja,Vq,af];have key:∀(b0:Bool) (S0:kR),Vy S0->_:=fun b0 S0 hB0=>pR (F:=fun (self2:Bool × kR × Int->ah (Bool × kR)) (x1:Bool × kR × Int)=>
  Option.bind (bif decide (x1.2.2<(rs.length:Int)) then
   some x1.1
   else some false:ah (Bool)) fun x3=>
  bif x3 then
   Option.bind (bnd rs.length x1.2.2 fun n4=>
    Option.bind rs[n4]? fun y5=>
    Option.bind (nG (x1.2.1,y5.2.2.2.2.2.2.2.2.2.2)) fun r6=>
    Option.bind (bnd rs.length x1.2.2 fun n7=>
     Option.bind rs[n7]? fun y8=>
     bif decide (y8.1=(3:Int)) then
      some (decide (r6.1.2.2.2.2.2.2.2.2.2.2.2=(0:Int)))
     else some false:ah (Bool)) fun x9=>
    some (x9,(r6.1.1,r6.1.2.1,r6.1.2.2.1,r6.1.2.2.2.1,r6.1.2.2.2.2.1,r6.1.2.2.2.2.2.1,r6.1.2.2.2.2.2.2.1)):ah (Bool × kR)) fun x10=>
   self2 (x10.1,x10.2,IntKind.wrap .i64 (x1.2.2+(1:Int)))
  else some (x1.1,x1.2.1))
  (fun x=>∃(i:Nat) (b:Bool) (S:kR),i<=rs.length/\x=(b,S,(i:Int))/\Vy S) (fun x=>rs.length-x.2.2.toNat)
  (fun x r=>∀(i:Nat) (b:Bool) (S:kR),x=(b,S,(i:Int))->match (if b=true then fM x_ S (rs.drop i) else none) with|none=>r.1=false|some S'=>r=(true,S'))
  (fun self x ⟨i,b,S,hi,hx,hS⟩ hs=>by
   subst hx
   simp only at hs ⊢
   have uniq:∀{i':Nat} {b':Bool} {S':kR},((b,S,(i:Int)):Bool × kR × Int)=(b',S',(i':Int))->b'=b/\i'=i/\S'=S:=fun h=>by
    simp only [di] at h
    exact ⟨h.1.symm,by omega,h.2.1.symm⟩
   by_cases hl:i<rs.length
   ·have hy:=hz2 _ (nH hl)
    obtain ⟨_,o1,o3,_,_⟩:=aqW (S:=S) (o:=GR rs[i]) hS (by exact hy)
    have hd:rs.drop i=rs[i]::rs.drop (i+1):=uU hl
    have bi:∀{B:Type} {q:Nat->ah B},bnd rs.length (i:Int) q=q i:=fun {B q}=>aF hl
    simp only [show ((i:Int)<(rs.length:Int)) from by omega,decide_true,ai,af]
    cases b with
    | false=>
     refine ⟨_,rfl,fun i' b' S' h => ?_⟩
     obtain ⟨rfl,rfl,rfl⟩:=uniq h
     rfl
    | true=>
     simp only [ai,bi,aR hl,af]
     rw [show rs[i].2.2.2.2.2.2.2.2.2.2=GR rs[i] from rfl,o1,af,bT (by omega)]
     by_cases c1:rs[i].1=3/\(OB S (GR rs[i])).2.2.2.2.2.2.2.2.2.2.2=0
     ·rw [ak c1.1,ak c1.2]
      obtain ⟨r,g1,g2⟩:=hs (true,shO (OB S (GR rs[i])),((i+1:Nat):Int)) ⟨i+1,_,_,hl,rfl,o3⟩ (by simp;omega)
      refine ⟨r,g1,fun i' b' S' h => ?_⟩
      obtain ⟨rfl,rfl,rfl⟩:=uniq h
      have:=g2 _ _ _ rfl
      rw [if_pos rfl] at this ⊢
      rw [hd,fM,show x_ S' rs[i']=some (shO (OB S' (GR rs[i']))) from by unfold x_;rw [if_pos c1]]
      exact this
     ·have hb:(bif decide (rs[i].1=(3:Int)) then some (decide ((OB S (GR rs[i])).2.2.2.2.2.2.2.2.2.2.2=(0:Int))) else some false:ah Bool)=some false:=by
       by_cases c:rs[i].1=3
       ·rw [ak c,az (fun h=>c1 ⟨c,h⟩)];rfl
       ·rw [az c];rfl
      rw [hb]
      obtain ⟨r,g1,g2⟩:=hs (false,shO (OB S (GR rs[i])),((i+1:Nat):Int)) ⟨i+1,_,_,hl,rfl,o3⟩ (by simp;omega)
      refine ⟨r,g1,fun i' b' S' h => ?_⟩
      obtain ⟨rfl,rfl,rfl⟩:=uniq h
      have:=g2 _ _ _ rfl
      rw [if_neg (by simp)] at this
      rw [if_pos rfl,hd,fM,show x_ S' rs[i']=none from by unfold x_;rw [if_neg c1]]
      exact this
   ·simp only [show ¬((i:Int)<(rs.length:Int)) from by omega,decide_false,ax,af]
    refine ⟨_,rfl,fun i' b' S' h => ?_⟩
    obtain ⟨rfl,rfl,rfl⟩:=uniq h
    have:i'=rs.length:=by omega
    subst this
    rw [List.drop_length,fM]
    cases b'<;>rfl)
  (n:=BIG) (x:=(b0,S0,((0:Nat):Int))) (by simp [BIG];omega) ⟨0,_,_,by omega,rfl,hB0⟩
 unfold sfO;by_cases hc:(aW a 1 3&&aW b 1 12)=true
 ·rw [if_pos hc,if_pos hc];obtain ⟨r,g1,g2⟩:=key true (a,b,[],0,false,[],[]) ⟨by simp,by simp,by simp⟩;refine (Dg g1 _).trans ?_;have:=g2 0 _ _ rfl;rw [if_pos rfl,uI] at this;have hf:=ajN rs (a,b,[],0,false,[],[]);cases hS:fM x_ (a,b,[],0,false,[],[]) rs with
  | none=>
   rw [hS] at this;simp only at this;simp only [this,gW,ai];rfl
  | some S'=>
   rw [hS] at this;simp only at this;obtain ⟨k1,k2,k3⟩:=hf S' (fun y hy=>hz2 y hy) ⟨by simp,by simp,by simp⟩ hS;subst this;obtain ⟨p0,p1,p2,p3⟩:=S';simp only [bB,ax];rw [xZ p0 p1 p2 p3 k1 k2 k3,af];rfl
 ·rw [if_neg hc,if_neg hc];obtain ⟨r,g1,g2⟩:=key false (0,0,[],0,false,[],[]) ⟨by simp,by simp,by simp⟩;refine (Dg g1 _).trans ?_;have:=g2 0 _ _ rfl;rw [if_neg (by simp)] at this;simp only at this;simp only [this,gW,ai];rfl
def cz (n:Nat) (E:aa Ed) (v:Int):Nat:=(labs n E).count ((labs n E).getD v.toNat 0)
theorem ajQ (n:Nat) (L:aa aC) (k:Int) (v:Int):cmp n L k v=cz n (aM L k) v:=rfl
def czL (n:Nat) (E:aa Ed) (v:Int):aa Nat:=(List.range n).filter fun i=>decide ((labs n E).getD i 0=(labs n E).getD v.toNat 0)
theorem JY (n:Nat) (E:aa Ed) (v:Int):cz n E v=(czL n E v).length:=by
 unfold cz czL;rw [auw,dU]
theorem ajR (n:Nat) (E:aa Ed) (v:Int):(czL n E v).Nodup:=(List.nodup_range (n:=n)).sublist XD
theorem tJ {n:Nat} {E:aa Ed} (hE:oN n E) {v:Int} (hv:0<=v/\v<n) (i:Nat):i∈czL n E v↔i<n/\Con E v i:=by
 unfold czL;rw [jK,iY,decide_eq_true_eq];constructor
 ·rintro ⟨h1,h2⟩;have hl:=kZ hE;have:=hl.iff (getD_at (show i<(labs n E).length by rw [dU];omega)) (getD_at (show v.toNat<(labs n E).length by rw [dU];omega));rw [jF hv.1] at this;exact ⟨h1,(this.1 h2).symm⟩
 ·rintro ⟨h1,h2⟩;have hl:=kZ hE;have:=hl.iff (getD_at (show i<(labs n E).length by rw [dU];omega)) (getD_at (show v.toNat<(labs n E).length by rw [dU];omega));rw [jF hv.1] at this;exact ⟨h1,this.2 h2.symm⟩
theorem aDo (n:Nat) (E:aa Ed) (v:Int):cz n E v<=n:=by
 have:=List.count_le_length (a:=(labs n E).getD v.toNat 0) (l:=labs n E);rw [dU] at this;exact this
theorem oP {n:Nat} {E E':aa Ed} (hE:oN n E) (hE':oN n E') {v w:Int} (hv:0<=v/\v<n) (hw:0<=w/\w<n) (h:∀x,Con E v x->Con E' w x):cz n E v<=cz n E' w:=by
 rw [JY,JY];refine mi _ _ (ajR n E v) fun i hi => ?_
 obtain ⟨h1,h2⟩:=(tJ hE hv i).1 hi;exact (tJ hE' hw i).2 ⟨h1,h _ h2⟩
theorem aBC {n:Nat} {E E':aa Ed} (hE:oN n E) (hE':oN n E') {v u w:Int} (hv:0<=v/\v<n) (hu:0<=u/\u<n) (hw:0<=w/\w<n) (h1:∀x,Con E v x->Con E' w x) (h2:∀x,Con E u x->Con E' w x) (hd:¬Con E v u):cz n E v+cz n E u<=cz n E' w:=by
 rw [JY,JY,JY,<-dP];refine mi _ _ (Rq.2 ⟨ajR n E v,ajR n E u,fun i hi j hj wC => ?_⟩) fun i hi => ?_
 ·subst wC;exact hd (((tJ hE hv i).1 hi).2.trans ((tJ hE hu i).1 hj).2.symm)
 ·rcases bG.1 hi with hi|hi
  ·obtain ⟨g1,g2⟩:=(tJ hE hv i).1 hi;exact (tJ hE' hw i).2 ⟨g1,h1 _ g2⟩
  ·obtain ⟨g1,g2⟩:=(tJ hE hu i).1 hi;exact (tJ hE' hw i).2 ⟨g1,h2 _ g2⟩
theorem aBD {n:Nat} {E:aa Ed} (hE:oN n E) {v:Int} (hv:0<=v/\v<n):1<=cz n E v:=by
 rw [JY];exact List.length_pos_of_mem ((tJ hE hv v.toNat).2 ⟨by omega,by rw [jF hv.1];exact .refl _⟩)
theorem iJ {L:aa aC} {k:Int} {e:Ed}:e∈aM L k↔∃y,y∈L/\y.2.2.2=true/\k<=y.2.2.1/\(y.1,y.2.1)=e:=by
 unfold aM;simp only [bX,jK,aU,decide_eq_true_eq,and_assoc]
theorem Sq {E:aa Ed} {e:Ed} {r o:Int} (h:(r=e.1/\o=e.2)\/(r=e.2/\o=e.1)) {u v:Int}:Con (E++[e]) u v↔Con E u v\/(Con E u r/\Con E o v)\/(Con E u o/\Con E r v):=by
 obtain ⟨a,b⟩:=e;rw [Con.snoc];rcases h with ⟨rfl,rfl⟩|⟨rfl,rfl⟩
 ·exact Iff.rfl
 ·constructor
  ·rintro (h|h|h)
   ·exact .inl h
   ·exact .inr (.inr h)
   ·exact .inr (.inl h)
  ·rintro (h|h|h)
   ·exact .inl h
   ·exact .inr (.inr h)
   ·exact .inr (.inl h)
structure Inv (n:Nat) (M:List aC) (e:Ed) (k:Int):Prop where
 gr:jT n (gE M)=true
 lv:∀x,x∈M->0<=x.2.2.1/\x.2.2.1<=4
 nc:NoCyc (aM M 0)
 dis:¬Con (aM M 0) e.1 e.2
 hi:∀x,x∈M->x.2.2.2=false->k<x.2.2.1->Con (aM M x.2.2.1) x.1 x.2.1
 lo:∀x,x∈M->x.2.2.2=false->x.2.2.1<=k->Con (aM M x.2.2.1++[e]) x.1 x.2.1
 sz:∀j:Nat,1<=j->j<=4->∀f,f∈aM M j->cz n (aM M j) f.1<=n / 2 ^ j
 sz':∀j:Nat,(j:Int)<=k->cz n (aM M j++[e]) e.1<=n / 2 ^ j
theorem Inv.wok {n:Nat} {M:aa aC} {e:Ed} (h:Inv n M e (-1)):WOk n M:=
 ⟨h.gr,h.lv,h.nc,fun x hx ht=>by
  have hr:=fK ((jY h.gr).1 (x.1,x.2.1) (bX.2 ⟨x,hx,rfl⟩))
  exact (lg h.gr _ ⟨hr.1,hr.2.1⟩ ⟨hr.2.2.1,hr.2.2.2.1⟩).2 (h.hi x hx ht (by have:=(h.lv x hx).1;omega)),h.sz⟩
section
variable {n:Nat} {M:aa aC} {e:Ed} {k:Nat} (hI:Inv n M e (k:Int)) (k3:k<=3) (ha:0<=e.1/\e.1<n) (hb:0<=e.2/\e.2<n)
 {r o:Int} (bq:(r=e.1/\o=e.2)\/(r=e.2/\o=e.1)) (ru:cz n (aM M k) r<=cz n (aM M k) o)
 {s:Int->Bool} (hs:∀x:Int,0<=x/\x<n->(s x=true↔Con (aM M k) r x))
include hI
theorem Inv.rg {x:aC} (hx:x∈M):(0<=x.1/\x.1<n)/\(0<=x.2.1/\x.2.1<n):=by
 have hr:=fK ((jY hI.gr).1 (x.1,x.2.1) (bX.2 ⟨x,hx,rfl⟩));simp only at hr;omega
theorem Inv.rgE {j:Int} {f:Ed} (hf:f∈aM M j):(0<=f.1/\f.1<n)/\(0<=f.2/\f.2<n):=by
 obtain ⟨y,h1,_,_,rfl⟩:=iJ.1 hf;exact hI.rg h1
theorem Inv.ein (j:Int):oN n (aM M j):=jA hI.gr j
include ha hb
theorem Inv.eine (j:Int):oN n (aM M j++[e]):=fun f hf=>by
 rcases bG.1 hf with h|h
 ·exact hI.ein j f h
 ·rw [cK.1 h];exact ⟨ha.1,ha.2,hb.1,hb.2⟩
include bq
theorem Inv.dis' (j:Int) (hj:0<=j):¬Con (aM M j) r o:=by
 intro h;have h0:=h.mono (vL (L:=M) hj);rcases bq with ⟨rfl,rfl⟩|⟨rfl,rfl⟩
 ·exact hI.dis h0
 ·exact hI.dis h0.symm
include ru
theorem Inv.half:cz n (aM M k) r<=n / 2 ^ (k+1):=by
 have hr:0<=r/\r<n:=by rcases bq with ⟨rfl,rfl⟩|⟨rfl,rfl⟩<;>assumption
 have ho:0<=o/\o<n:=by rcases bq with ⟨rfl,rfl⟩|⟨rfl,rfl⟩<;>assumption
 have gM:∀{x y:Int},Con (aM M k) x y->Con (aM M k++[e]) x y:=fun h=>h.mono fun f hf=>jl _ hf
 have mr:Con (aM M k++[e]) e.1 e.2:=.of (jD _ (cK.2 rfl));have h1:Con (aM M k++[e]) e.1 r:=by
  rcases bq with ⟨rfl,rfl⟩|⟨rfl,rfl⟩
  ·exact .refl _
  ·exact mr
 have h2:Con (aM M k++[e]) e.1 o:=by
  rcases bq with ⟨rfl,rfl⟩|⟨rfl,rfl⟩
  ·exact mr
  ·exact .refl _
 have:=aBC (hI.ein k) (hI.eine ha hb k) hr ho ha (fun x hx=>h1.trans (gM hx)) (fun x hx=>h2.trans (gM hx)) (hI.dis' ha hb bq k (by omega));have h3:=hI.sz' k (by omega);rw [Nat.pow_succ,<-Nat.div_div_eq_div_mul];omega
end
def f1 (s:Int->Bool) (k:Int) (y:aC):aC:=if lD s k y=1 then kQ k y else y
theorem zJ {s:Int->Bool} {k:Int} {y:aC} (k3:k<=3) (c:y.2.2.2=true/\y.2.2.1=k/\s y.1=true):f1 s k y=(y.1,y.2.1,k+1,true):=by
 unfold f1 lD kQ QU;rw [if_pos c,if_pos rfl,if_neg (by omega),c.1]
theorem ww {s:Int->Bool} {k:Int} {y:aC} (c:¬(y.2.2.2=true/\y.2.2.1=k/\s y.1=true)):f1 s k y=y:=by
 unfold f1 lD;rw [if_neg c,if_neg (by omega)]
section
variable {M:aa aC} {s:Int->Bool} {k:Int} (k3:k<=3)
include k3
theorem GU {j:Int} (hj:j≠k+1) {f:Ed}:f∈aM (M.map (f1 s k)) j↔f∈aM M j:=by
 rw [iJ,iJ];constructor
 ·rintro ⟨y',ql,ht,hl,he⟩;obtain ⟨y,hy,rfl⟩:=bX.1 ql;by_cases c:y.2.2.2=true/\y.2.2.1=k/\s y.1=true
  ·rw [zJ k3 c] at ht hl he;simp only at ht hl he;exact ⟨y,hy,c.1,by omega,he⟩
  ·rw [ww c] at ht hl he;exact ⟨y,hy,ht,hl,he⟩
 ·rintro ⟨y,hy,ht,hl,he⟩;refine ⟨f1 s k y,bX.2 ⟨y,hy,rfl⟩,?_⟩;by_cases c:y.2.2.2=true/\y.2.2.1=k/\s y.1=true
  ·rw [zJ k3 c];exact ⟨rfl,by simp only;omega,he⟩
  ·rw [ww c];exact ⟨ht,hl,he⟩
theorem GV {f:Ed}:f∈aM (M.map (f1 s k)) (k+1)↔f∈aM M (k+1)\/(f∈aM M k/\s f.1=true):=by
 rw [iJ,iJ,iJ];constructor
 ·rintro ⟨y',ql,ht,hl,he⟩;obtain ⟨y,hy,rfl⟩:=bX.1 ql;by_cases c:y.2.2.2=true/\y.2.2.1=k/\s y.1=true
  ·rw [zJ k3 c] at ht hl he;simp only at ht hl he;exact .inr ⟨⟨y,hy,c.1,by omega,he⟩,by rw [<-he];exact c.2.2⟩
  ·rw [ww c] at ht hl he;exact .inl ⟨y,hy,ht,hl,he⟩
 ·rintro (⟨y,hy,ht,hl,he⟩|⟨⟨y,hy,ht,hl,he⟩,qh⟩)
  ·refine ⟨f1 s k y,bX.2 ⟨y,hy,rfl⟩,?_⟩;rw [ww (fun c=>by omega)];exact ⟨ht,hl,he⟩
  ·refine ⟨f1 s k y,bX.2 ⟨y,hy,rfl⟩,?_⟩;by_cases c:y.2.2.2=true/\y.2.2.1=k/\s y.1=true
   ·rw [zJ k3 c];exact ⟨rfl,by simp only;omega,he⟩
   ·rw [ww c];refine ⟨ht,?_,he⟩;have:y.2.2.1≠k:=fun h=>c ⟨ht,h,by rw [<-he] at qh;exact qh⟩
    omega
theorem auD {j:Int} {f:Ed} (h:f∈aM M j):f∈aM (M.map (f1 s k)) j:=by
 by_cases hj:j=k+1
 ·subst hj;exact (GV k3).2 (.inl h)
 ·exact (GU k3 hj).2 h
theorem Fj {y:aC} (ht:y.2.2.2=false):y∈M.map (f1 s k)↔y∈M:=by
 constructor
 ·intro ql;obtain ⟨y0,hy,rfl⟩:=bX.1 ql;by_cases c:y0.2.2.2=true/\y0.2.2.1=k/\s y0.1=true
  ·rw [zJ k3 c] at ht;cases ht
  ·rw [ww c];exact hy
 ·intro hy;exact bX.2 ⟨y,hy,ww (fun c=>by rw [ht] at c;cases c.1)⟩
theorem ax5 (h:∀x,x∈M->0<=x.2.2.1/\x.2.2.1<=4) (k0:0<=k):∀x,x∈M.map (f1 s k)->0<=x.2.2.1/\x.2.2.1<=4:=by
 intro x hx;obtain ⟨y,hy,rfl⟩:=bX.1 hx;by_cases c:y.2.2.2=true/\y.2.2.1=k/\s y.1=true
 ·rw [zJ k3 c];simp only;omega
 ·rw [ww c];exact h y hy
end
section
variable {n:Nat} {M:aa aC} {e:Ed} {k:Nat} (hI:Inv n M e (k:Int)) (k3:(k:Int)<=3) (ha:0<=e.1/\e.1<n) (hb:0<=e.2/\e.2<n)
 {r o:Int} (bq:(r=e.1/\o=e.2)\/(r=e.2/\o=e.1)) (ru:cz n (aM M k) r<=cz n (aM M k) o)
 {s:Int->Bool} (hs:∀x:Int,0<=x/\x<n->(s x=true↔Con (aM M k) r x))
include hI k3 ha hb bq ru hs
theorem agj {x:Int} (h:Con (aM M k) r x):Con (aM (M.map (f1 s k)) ((k:Int)+1)) r x:=by
 have hr:0<=r/\r<n:=by rcases bq with ⟨rfl,rfl⟩|⟨rfl,rfl⟩<;>assumption
 induction h with
 | refl=>exact .refl _
 | fwd hc hm ih=>
  refine .fwd ih ((GV k3).2 (.inr ⟨hm,?_⟩));exact (hs _ (hI.rgE hm).1).2 hc
 | bwd hc hm ih=>
  refine .bwd ih ((GV k3).2 (.inr ⟨hm,?_⟩));exact (hs _ (hI.rgE hm).1).2 (.bwd hc hm)
theorem aBE {v x:Int} (hv:¬Con (aM M k) r v) (h:Con (aM (M.map (f1 s k)) ((k:Int)+1)) v x):Con (aM M ((k:Int)+1)) v x:=by
 have gM:∀{x y:Int},Con (aM M ((k:Int)+1)) x y->Con (aM M k) x y:=fun h=>h.mono (vL (by omega))
 induction h with
 | refl=>exact .refl _
 | fwd hc hm ih=>
  rcases (GV k3).1 hm with hm|⟨hm,qh⟩
  ·exact .fwd ih hm
  ·exfalso;exact hv (((hs _ (hI.rgE hm).1).1 qh).trans (gM ih).symm)
 | bwd hc hm ih=>
  rcases (GV k3).1 hm with hm|⟨hm,qh⟩
  ·exact .bwd ih hm
  ·exfalso;exact hv ((Con.fwd ((hs _ (hI.rgE hm).1).1 qh) hm).trans (gM ih).symm)
theorem ajS (j:Int):oN n (aM (M.map (f1 s k)) j):=fun f hf=>by
 by_cases hj:j=(k:Int)+1
 ·subst hj
  rcases (GV k3).1 hf with h|h
  ·exact hI.ein _ f h
  ·exact hI.ein _ f h.1
 ·exact hI.ein _ f ((GU k3 hj).1 hf)
theorem ax6 (j:Nat) (j1:1<=j) (j4:j<=4):∀f,f∈aM (M.map (f1 s k)) j->cz n (aM (M.map (f1 s k)) j) f.1<=n / 2 ^ j:=by
 intro f hf;have MF:=ajS hI k3 ha hb bq ru hs;have hr:0<=r/\r<n:=by rcases bq with ⟨rfl,rfl⟩|⟨rfl,rfl⟩<;>assumption
 by_cases hj:(j:Int)=(k:Int)+1
 ·have hjk:j=k+1:=by omega
  subst hjk;have aro:((k+1:Nat):Int)=(k:Int)+1:=by omega
  rw [aro] at hf ⊢;by_cases hc:Con (aM M k) r f.1
  ·refine kg (oP (MF _) (hI.ein k) ?_ hr fun x hx=>hc.trans (hx.sub fun g hg => ?_)) (hI.half ha hb bq ru)
   ·exact (hc.range (hI.ein k) hr)
   ·rcases (GV k3).1 hg with h|h
    ·exact .of (vL (by omega) g h)
    ·exact .of h.1
  ·have ku:f∈aM M ((k:Int)+1):=by
    rcases (GV k3).1 hf with h|⟨h,h'⟩
    ·exact h
    ·exact absurd ((hs _ (hI.rgE h).1).1 h') hc
   have:=hI.sz (k+1) j1 j4 f (by rw [aro];exact ku);rw [aro] at this;exact kg (oP (MF _) (hI.ein _) (hI.rgE ku).1 (hI.rgE ku).1 fun x hx=>aBE hI k3 ha hb bq ru hs hc hx) this
 ·have ku:=(GU k3 hj).1 hf;exact kg (oP (MF _) (hI.ein _) (hI.rgE ku).1 (hI.rgE ku).1 fun x hx=>hx.mono fun g hg=>(GU k3 hj).1 hg) (hI.sz j j1 j4 f ku)
theorem awv {M2:aa aC} (h2:M2=(M.map (f1 s k)).map fun y=>if fZ s k y=1 then kQ k y else y) (eD:∀y,y∈M.map (f1 s k)->fZ s k y≠2) (mD:gE M2=gE M):Inv n M2 e ((k:Int)-1):=by
 have hr:0<=r/\r<n:=by rcases bq with ⟨rfl,rfl⟩|⟨rfl,rfl⟩<;>assumption
 have MF:=ajS hI k3 ha hb bq ru hs;have hB:∀(j:Int) (f:Ed),f∈aM M2 j↔f∈aM (M.map (f1 s k)) j:=by
  intro j f;rw [h2,iJ,iJ];constructor
  ·rintro ⟨y',ql,ht,hl,he⟩;obtain ⟨y,hy,rfl⟩:=bX.1 ql;by_cases c:fZ s k y=1
   ·rw [if_pos c] at ht;have nC:y.2.2.2=true:=ht;unfold fZ at c;rw [if_pos (.inl nC)] at c;omega
   ·rw [if_neg c] at ht hl he;exact ⟨y,hy,ht,hl,he⟩
  ·rintro ⟨y,hy,ht,hl,he⟩;refine ⟨y,bX.2 ⟨y,hy,if_neg fun c => ?_⟩,ht,hl,he⟩;unfold fZ at c;rw [if_pos (.inl ht)] at c;omega
 have arp:∀(j:Int) (f:Ed),j<=k->(f∈aM M2 j↔f∈aM M j):=fun j f hj=>(hB j f).trans (GU k3 (by omega))
 have mX:∀(j:Int) (f:Ed),f∈aM M j->f∈aM M2 j:=fun j f h=>(hB j f).2 (auD k3 h)
 -- what is no edge of a forest
 have arq:∀x,x∈M2->x.2.2.2=false->(x∈M/\fZ s k x≠1)\/∃y,y∈M/\y.2.2.2=false/\fZ s k y=1/\x=kQ k y:=by
  intro x hx ht;rw [h2] at hx;obtain ⟨y,hy,rfl⟩:=bX.1 hx;by_cases c:fZ s k y=1
  ·rw [if_pos c] at ht ⊢;exact .inr ⟨y,(Fj k3 (show y.2.2.2=false from ht)).1 hy,ht,c,rfl⟩
  ·rw [if_neg c] at ht ⊢;exact .inl ⟨(Fj k3 ht).1 hy,c⟩
 have hrz:∀y:aC,(kQ k y).2.2.1=(k:Int)+1:=fun y=>by
  unfold kQ QU;rw [if_neg (by omega)]
 have Hg:∀y:aC,y∈M->fZ s k y=1->Con (aM M k) r y.1/\Con (aM M k) r y.2.1:=by
  intro y hy c;unfold fZ at c;obtain ⟨g1,g2⟩:=hI.rg hy;split at c
  ·omega
  ·split at c
   ·rename_i h;exact ⟨(hs _ g1).1 h.1,(hs _ g2).1 h.2⟩
   ·omega
 refine ⟨by rw [mD];exact hI.gr,?_,hI.nc.sub fun f hf=>(arp 0 f (by omega)).1 hf,fun h=>hI.dis (h.mono fun f hf=>(arp 0 f (by omega)).1 hf),?_,?_,?_,?_⟩
 ·intro x hx;rw [h2] at hx;obtain ⟨y,hy,rfl⟩:=bX.1 hx;by_cases c:fZ s k y=1
  ·rw [if_pos c,hrz];omega
  ·rw [if_neg c];exact ax5 k3 hI.lv (by omega) y hy
 ·intro x hx ht lJ;rcases arq x hx ht with ⟨VI,c⟩|⟨y,hy,hty,c,rfl⟩
  ·by_cases hk:x.2.2.1=k
   ·-- off the lesser side
    have hp:s x.1=false/\s x.2.1=false:=by
     have Bq:=eD x ((Fj k3 ht).2 VI);unfold fZ at c Bq;split at c
     ·rename_i h;rcases h with h|h|h
      ·rw [ht] at h;cases h
      ·exact absurd hk h
      ·exact h
     ·rename_i h;rw [if_neg h] at Bq;split at c
      ·exact absurd rfl c
      ·rename_i h';rw [if_neg h'] at Bq;exact absurd rfl Bq
    obtain ⟨g1,g2⟩:=hI.rg VI;have n1:¬Con (aM M k) r x.1:=fun h=>by
     have:=(hs _ g1).2 h;rw [hp.1] at this;cases this
    have n2:¬Con (aM M k) r x.2.1:=fun h=>by
     have:=(hs _ g2).2 h;rw [hp.2] at this;cases this
    have:=hI.lo x VI ht (by omega);rw [hk] at this ⊢;rcases (Sq bq).1 this with h|⟨h,_⟩|⟨_,h⟩
    ·exact h.mono fun f hf=>mX k f hf
    ·exact absurd h.symm n1
    ·exact absurd h n2
   ·exact (hI.hi x VI ht (by omega)).mono fun f hf=>mX _ f hf
  ·rw [hrz];obtain ⟨c1,c2⟩:=Hg y hy c;have u1:=agj hI k3 ha hb bq ru hs c1;have u2:=agj hI k3 ha hb bq ru hs c2;exact (u1.symm.trans u2).mono fun f hf=>(hB _ f).2 hf
 ·intro x hx ht lJ;rcases arq x hx ht with ⟨VI,c⟩|⟨y,hy,hty,c,rfl⟩
  ·refine (hI.lo x VI ht (by omega)).mono fun f hf => ?_
   rcases bG.1 hf with h|h
   ·exact jl _ (mX _ f h)
   ·exact jD _ h
  ·rw [hrz] at lJ;omega
 ·intro j j1 j4 f hf;have ku:=(hB j f).1 hf;have yL:0<=f.1/\f.1<n:=by
   have:=MF _ f ku;omega
  refine kg (oP (fun g hg=>MF _ g ((hB _ g).1 hg)) (MF j) yL yL fun x hx=>hx.mono fun g hg=>(hB _ g).1 hg) (ax6 hI k3 ha hb bq ru hs j j1 j4 f ku)
 ·intro j hj;refine kg (oP (fun g hg => ?_) (hI.eine ha hb j) ha ha fun x hx=>hx.mono fun g hg => ?_) (hI.sz' j (by omega))
  ·rcases bG.1 hg with h|h
   ·exact hI.ein _ g ((arp j g (by omega)).1 h)
   ·rw [cK.1 h];exact ⟨ha.1,ha.2,hb.1,hb.2⟩
  ·rcases bG.1 hg with h|h
   ·exact jl _ ((arp j g (by omega)).1 h)
   ·exact jD _ h
end
section
variable {n:Nat} {M:aa aC} {e:Ed} {k:Nat} (hI:Inv n M e (k:Int)) (k3:(k:Int)<=3) (ha:0<=e.1/\e.1<n) (hb:0<=e.2/\e.2<n)
 {r o:Int} (bq:(r=e.1/\o=e.2)\/(r=e.2/\o=e.1)) (ru:cz n (aM M k) r<=cz n (aM M k) o)
 {s:Int->Bool} (hs:∀x:Int,0<=x/\x<n->(s x=true↔Con (aM M k) r x))
include hI k3 ha hb bq ru hs
theorem aww {M2 A B:aa aC} {x:aC} (h1:M.map (f1 s k)=A++x::B) (h2:M2=(A.map fun y=>if fZ s k y=1 then kQ k y else y)++GM x::B) (Re:fZ s k x=2) (mD:gE M2=gE M):WOk n M2:=by
 have hr:0<=r/\r<n:=by rcases bq with ⟨rfl,rfl⟩|⟨rfl,rfl⟩<;>assumption
 have MF:=ajS hI k3 ha hb bq ru hs;have Ri:x.2.2.2=false/\x.2.2.1=k/\¬(s x.1=false/\s x.2.1=false)/\¬(s x.1=true/\s x.2.1=true):=by
  unfold fZ at Re;split at Re
  ·omega
  ·rename_i h;split at Re
   ·omega
   ·rename_i h';simp only [not_or] at h;refine ⟨by simpa using h.1,?_,h.2.2,h'⟩;apply yM;exact h.2.1
 obtain ⟨xt,xk,xs1,xs2⟩:=Ri;have VI:x∈M:=(Fj k3 xt).1 (by rw [h1];exact jD _ (dW ..));have gZ:jT n (gE M2)=true:=by rw [mD];exact hI.gr
 -- the edges of the forests
 have hC:∀(j:Int) (f:Ed),f∈aM M2 j↔f∈aM (M.map (f1 s k)) j\/(f=(x.1,x.2.1)/\j<=k):=by
  intro j f;rw [h1,h2,iJ,iJ];constructor
  ·rintro ⟨y',ql,ht,hl,he⟩;rcases bG.1 ql with ql|ql
   ·obtain ⟨y,hy,rfl⟩:=bX.1 ql;by_cases c:fZ s k y=1
    ·rw [if_pos c] at ht;have nC:y.2.2.2=true:=ht;unfold fZ at c;rw [if_pos (.inl nC)] at c;omega
    ·rw [if_neg c] at ht hl he;exact .inl ⟨y,jl _ hy,ht,hl,he⟩
   ·rcases aY.1 ql with rfl|ql
    ·exact .inr ⟨he.symm,by rw [<-xk];exact hl⟩
    ·exact .inl ⟨y',jD _ (dQ _ ql),ht,hl,he⟩
  ·rintro (⟨y,hy,ht,hl,he⟩|⟨he,hl⟩)
   ·rcases bG.1 hy with hy|hy
    ·refine ⟨y,jl _ (bX.2 ⟨y,hy,if_neg fun c => ?_⟩),ht,hl,he⟩;unfold fZ at c;rw [if_pos (.inl ht)] at c;omega
    ·rcases aY.1 hy with rfl|hy
     ·rw [xt] at ht;cases ht
     ·exact ⟨y,jD _ (dQ _ hy),ht,hl,he⟩
   ·exact ⟨GM x,jD _ (dW ..),rfl,by show j<=x.2.2.1;omega,he.symm⟩
 have mX:∀(j:Int) (f:Ed),f∈aM M j->f∈aM M2 j:=fun j f h=>(hC j f).2 (.inl (auD k3 h))
 have arq:∀y,y∈M2->y.2.2.2=false->y∈M\/∃z,z∈M/\z.2.2.2=false/\fZ s k z=1/\y=kQ k z:=by
  intro y hy ht;rw [h2] at hy;rcases bG.1 hy with hy|hy
  ·obtain ⟨z,hz,rfl⟩:=bX.1 hy;by_cases c:fZ s k z=1
   ·rw [if_pos c] at ht ⊢;exact .inr ⟨z,(Fj k3 (show z.2.2.2=false from ht)).1 (by rw [h1];exact jl _ hz),ht,c,rfl⟩
   ·rw [if_neg c] at ht ⊢;exact .inl ((Fj k3 ht).1 (by rw [h1];exact jl _ hz))
  ·rcases aY.1 hy with rfl|hy
   ·cases ht
   ·exact .inl ((Fj k3 ht).1 (by rw [h1];exact jD _ (dQ _ hy)))
 have hrz:∀y:aC,(kQ k y).2.2.1=(k:Int)+1:=fun y=>by
  unfold kQ QU;rw [if_neg (by omega)]
 -- the found one joins the two sides
 obtain ⟨x1r,x2r⟩:=hI.rg VI;have hlo:=hI.lo x VI xt (by omega);rw [xk] at hlo;have akv:(Con (aM M k) x.1 r/\Con (aM M k) o x.2.1)\/(Con (aM M k) x.1 o/\Con (aM M k) r x.2.1):=by
  rcases (Sq bq).1 hlo with h|h|h
  ·exfalso;by_cases c:s x.1=true
   ·exact xs2 ⟨c,(hs _ x2r).2 (((hs _ x1r).1 c).trans h)⟩
   ·refine xs1 ⟨by simpa using c,?_⟩;cases h':s x.2.1 with
    | false=>rfl
    | true=>exact absurd ((hs _ x1r).2 (((hs _ x2r).1 h').trans h.symm)) c
  ·exact .inl h
  ·exact .inr h
 have h_:∀{j:Int},j<=k->∀{u v:Int},Con (aM M k) u v->Con (aM M j) u v:=by
  intro j hj u v h;exact h.mono (vL hj)
 have Au:∀{j:Int} {u v:Int},Con (aM M j) u v->Con (aM M2 j) u v:=fun h=>h.mono fun f hf=>mX _ f hf
 have ayz:∀j:Int,j<=k->Con (aM M2 j) r o:=by
  intro j hj;have hxx:Con (aM M2 j) x.1 x.2.1:=.of ((hC j _).2 (.inr ⟨rfl,hj⟩));rcases akv with ⟨g1,g2⟩|⟨g1,g2⟩
  ·exact (Au (h_ hj g1)).symm.trans (hxx.trans (Au (h_ hj g2)).symm)
  ·exact (Au (h_ hj g2)).trans (hxx.symm.trans (Au (h_ hj g1)))
 have hrj:∀{j:Int},j<=k->∀{u v:Int},Con (aM M j++[e]) u v->Con (aM M2 j) u v:=by
  intro j hj u v h;rcases (Sq bq).1 h with h|⟨g1,g2⟩|⟨g1,g2⟩
  ·exact Au h
  ·exact (Au g1).trans ((ayz j hj).trans (Au g2))
  ·exact (Au g1).trans ((ayz j hj).symm.trans (Au g2))
 have hjr:∀{j:Int},j<=k->∀{u v:Int},Con (aM M2 j) u v->Con (aM M j++[e]) u v:=by
  intro j hj u v h;refine h.sub fun f hf => ?_
  rcases (hC j f).1 hf with h|⟨rfl,_⟩
  ·exact .of (jl _ ((GU k3 (by omega)).1 h))
  ·refine hlo.mono fun g hg => ?_
   rcases bG.1 hg with h|h
   ·exact jl _ (vL hj g h)
   ·exact jD _ h
 refine ⟨gZ,?_,?_,?_,?_⟩
 ·intro y hy;have hl1:=ax5 k3 (s:=s) hI.lv (by omega);rw [h2] at hy;rcases bG.1 hy with hy|hy
  ·obtain ⟨z,hz,rfl⟩:=bX.1 hy;by_cases c:fZ s k z=1
   ·rw [if_pos c,hrz];omega
   ·rw [if_neg c];exact hl1 z (by rw [h1];exact jl _ hz)
  ·rcases aY.1 hy with rfl|hy
   ·exact hI.lv x VI
   ·exact hl1 y (by rw [h1];exact jD _ (dQ _ hy))
 ·-- no ring
  have eD:¬Con (aM M 0) x.1 x.2.1:=by
   intro h;refine hI.dis' ha hb bq 0 (by omega) ?_;rcases akv with ⟨g1,g2⟩|⟨g1,g2⟩
   ·exact (h_ (by omega) g1).symm.trans (h.trans (h_ (by omega) g2).symm)
   ·exact (h_ (by omega) g2).trans (h.symm.trans (h_ (by omega) g1))
  refine (Mo hI.nc eD).sub fun f hf => ?_
  rcases (hC 0 f).1 hf with h|⟨rfl,_⟩
  ·exact jl _ ((GU k3 (by omega)).1 h)
  ·exact jD _ (cK.2 rfl)
 ·intro y hy ht;have awT:Con (aM M2 y.2.2.1) y.1 y.2.1:=by
   rcases arq y hy ht with hyM|⟨z,hz,hzt,c,rfl⟩
   ·by_cases hl:y.2.2.1<=k
    ·exact hrj hl (hI.lo y hyM ht hl)
    ·exact Au (hI.hi y hyM ht (by omega))
   ·rw [hrz];obtain ⟨g1,g2⟩:=hI.rg hz;have hc:s z.1=true/\s z.2.1=true:=by
     unfold fZ at c;split at c
     ·omega
     ·split at c
      ·assumption
      ·omega
    have u1:=agj hI k3 ha hb bq ru hs ((hs _ g1).1 hc.1);have u2:=agj hI k3 ha hb bq ru hs ((hs _ g2).1 hc.2);exact (u1.symm.trans u2).mono fun f hf=>(hC _ f).2 (.inl hf)
  have nZ:=fK ((jY gZ).1 (y.1,y.2.1) (bX.2 ⟨y,hy,rfl⟩));exact (lg gZ _ ⟨nZ.1,nZ.2.1⟩ ⟨nZ.2.2.1,nZ.2.2.2.1⟩).2 awT
 ·intro j j1 j4 f hf;rw [ajQ];have he2:=jA gZ j;have yL:0<=f.1/\f.1<n:=by
   have:=he2 f hf;omega
  by_cases hj:(j:Int)<=k
  ·have h3:=hI.sz' j hj;by_cases hc:Con (aM M j++[e]) f.1 e.1
   ·exact kg (oP he2 (hI.eine ha hb j) yL ha fun v hv=>hc.symm.trans (hjr hj hv)) h3
   ·have hce:∀{v:Int},Con (aM M j++[e]) f.1 v->Con (aM M j) f.1 v:=by
     intro v hv;have Hl:Con (aM M j++[e]) e.1 e.2:=.of (jD _ (cK.2 rfl));have g_:∀{u v:Int},Con (aM M j) u v->Con (aM M j++[e]) u v:=fun h=>h.mono fun g hg=>jl _ hg
     rcases (Sq (.inl ⟨rfl,rfl⟩)).1 hv with h|⟨g1,_⟩|⟨g1,_⟩
     ·exact h
     ·exact absurd (g_ g1) hc
     ·exact absurd ((g_ g1).trans Hl.symm) hc
    have hfM:f∈aM M j:=by
     rcases (hC j f).1 hf with h|⟨rfl,_⟩
     ·exact (GU k3 (by omega)).1 h
     ·exfalso;have Hl:Con (aM M j++[e]) r o:=by
       have h0:Con (aM M j++[e]) e.1 e.2:=.of (jD _ (cK.2 rfl));rcases bq with ⟨rfl,rfl⟩|⟨rfl,rfl⟩
       ·exact h0
       ·exact h0.symm
      have g_:∀{u v:Int},Con (aM M k) u v->Con (aM M j++[e]) u v:=fun h=>(h_ hj h).mono fun g hg=>jl _ hg
      have hxr:Con (aM M j++[e]) x.1 r:=by
       rcases akv with ⟨g1,_⟩|⟨g1,_⟩
       ·exact g_ g1
       ·exact (g_ g1).trans Hl.symm
      refine hc (hxr.trans ?_);rcases bq with ⟨rfl,rfl⟩|⟨rfl,rfl⟩
      ·exact .refl _
      ·exact Hl
    exact kg (oP he2 (hI.ein j) yL yL fun v hv=>hce (hjr hj hv)) (hI.sz j j1 j4 f hfM)
  ·have ku:f∈aM (M.map (f1 s k)) j:=by
    rcases (hC j f).1 hf with h|⟨_,h⟩
    ·exact h
    ·exact absurd h hj
   refine kg (oP he2 (MF j) yL yL fun v hv=>hv.mono fun g hg => ?_) (ax6 hI k3 ha hb bq ru hs j j1 j4 f ku);rcases (hC j g).1 hg with h|⟨_,h⟩
   ·exact h
   ·exact absurd h hj
end
theorem azR {n:Nat} {M:aa aC} {e:Ed} {k:Nat} (hI:Inv n M e (k:Int)) (k3:(k:Int)<=3) (ha:0<=e.1/\e.1<n) (hb:0<=e.2/\e.2<n) :
  ((sch n M e k).2=none->Inv n (sch n M e k).1 e ((k:Int)-1))/\((sch n M e k).2≠none->WOk n (sch n M e k).1):=by
 have mD:=aba n M e (k:Int)
 -- the lesser side
 have bq:((if cmp n M k e.2<cmp n M k e.1 then e.2 else e.1)=e.1/\(if cmp n M k e.2<cmp n M k e.1 then e.1 else e.2)=e.2)\/((if cmp n M k e.2<cmp n M k e.1 then e.2 else e.1)=e.2/\(if cmp n M k e.2<cmp n M k e.1 then e.1 else e.2)=e.1):=by
  by_cases h:cmp n M k e.2<cmp n M k e.1
  ·rw [if_pos h,if_pos h];exact .inr ⟨rfl,rfl⟩
  ·rw [if_neg h,if_neg h];exact .inl ⟨rfl,rfl⟩
 have ru:cz n (aM M k) (if cmp n M k e.2<cmp n M k e.1 then e.2 else e.1)<=cz n (aM M k) (if cmp n M k e.2<cmp n M k e.1 then e.1 else e.2):=by
  by_cases h:cmp n M k e.2<cmp n M k e.1
  ·rw [if_pos h,if_pos h];exact Nat.le_of_lt h
  ·rw [if_neg h,if_neg h];exact Nat.le_of_not_lt h
 have hlc:(if cmp n M k e.2<cmp n M k e.1 then bA n M k e.2 else bA n M k e.1)=bA n M k (if cmp n M k e.2<cmp n M k e.1 then e.2 else e.1):=by
  by_cases h:cmp n M k e.2<cmp n M k e.1
  ·rw [if_pos h,if_pos h]
  ·rw [if_neg h,if_neg h]
 unfold sch at mD ⊢;simp only at mD ⊢;rw [hlc,JW (GN _ _)] at mD ⊢;generalize (if cmp n M k e.2<cmp n M k e.1 then e.2 else e.1)=r at bq ru mD ⊢;generalize (if cmp n M k e.2<cmp n M k e.1 then e.1 else e.2)=o at bq ru;have hr:0<=r/\r<n:=by rcases bq with ⟨rfl,rfl⟩|⟨rfl,rfl⟩<;>assumption
 have hs:∀x:Int,0<=x/\x<n->((fun x=>decide (bA n M k x=bA n M k r)) x=true↔Con (aM M k) r x):=by
  intro x hx;simp only [decide_eq_true_eq];rw [lg hI.gr _ hx hr];exact ⟨fun h=>h.symm,fun h=>h.symm⟩
 generalize (fun x=>decide (bA n M k x=bA n M k r))=s at hs mD ⊢;have hf1:(M.map fun y=>if lD s k y=1 then kQ k y else y)=M.map (f1 s k):=rfl;rw [hf1] at mD ⊢;simp only at mD ⊢;unfold tQ at mD ⊢;by_cases bR:(M.map (f1 s k)).findIdx (fun y=>decide (fZ s k y=2))<(M.map (f1 s k)).length
 ·rw [dif_pos bR] at mD ⊢;refine ⟨(fun h=>absurd h (by simp)),fun _ => ?_⟩;have h2:=XB (w:=bR);have sH:M.map (f1 s k)=(M.map (f1 s k)).take ((M.map (f1 s k)).findIdx fun y=>decide (fZ s k y=2))++(M.map (f1 s k))[(M.map (f1 s k)).findIdx fun y=>decide (fZ s k y=2)]::(M.map (f1 s k)).drop ((M.map (f1 s k)).findIdx (fun y=>decide (fZ s k y=2))+1):=by
   conv=>lhs;rw [<-Kb ((M.map (f1 s k)).findIdx fun y=>decide (fZ s k y=2)) (M.map (f1 s k)),uU bR]
  exact aww hI k3 ha hb bq ru hs sH rfl (by simpa using h2) mD
 ·rw [dif_neg bR] at mD ⊢;refine ⟨fun _=>awv hI k3 ha hb bq ru hs rfl (fun y hy h => ?_) mD,fun h=>absurd rfl h⟩;refine bR (List.findIdx_lt_length_of_exists ⟨y,hy,by simpa using h⟩)
theorem an3 {n:Nat} {e:Ed} (ha:0<=e.1/\e.1<n) (hb:0<=e.2/\e.2<n):∀(k:Nat) (M:aa aC),k<=4->Inv n M e ((k:Int)-1)->WOk n (xX n e k M).1/\gE (xX n e k M).1=gE M
 | 0,M,_,hI=>⟨hI.wok,rfl⟩
 | k+1,M,hk,hI=>by
  have FH:((k+1:Nat):Int)-1=(k:Int):=by omega
  rw [FH] at hI;obtain ⟨h1,h2⟩:=azR hI (by omega) ha hb;unfold xX;split
  ·rename_i hn;obtain ⟨g1,g2⟩:=an3 ha hb k _ (by omega) (h1 hn);exact ⟨g1,g2.trans (aba ..)⟩
  ·rename_i hn;exact ⟨h2 (by rw [hn];simp),aba ..⟩
theorem QW (L:aa aC) (p:Ed->Bool):gE (L.filter fun y=>p (y.1,y.2.1))=(gE L).filter p:=by
 unfold gE;rw [List.filter_map];rfl
theorem auE:∀{L:aa aC},(gE L).Nodup->∀{y z:aC},y∈L->z∈L->(y.1,y.2.1)=(z.1,z.2.1)->y=z
 | [],_,y,z,hy,_,_=>by cases hy
 | x::L,hn,y,z,hy,hz,he=>by
  have hn':((x.1,x.2.1)::gE L).Nodup:=hn;rw [nJ] at hn';rcases aY.1 hy with rfl|ql
  ·rcases aY.1 hz with rfl|Q9
   ·rfl
   ·exact absurd (bX.2 ⟨z,Q9,he.symm⟩) hn'.1
  ·rcases aY.1 hz with rfl|Q9
   ·exact absurd (bX.2 ⟨y,ql,he⟩) hn'.1
   ·exact auE hn'.2 ql Q9 he
def aBF:aa Ed:=(List.range 12).flatMap fun (b:Nat)=>(List.range b).map fun (a:Nat)=>((a:Int),(b:Int))
theorem awx:aBF.length=66:=by decide
theorem QY {n:Nat} {es:aa Ed} (h:GrOk n es):es.length<=66:=by
 rw [<-awx];refine mi _ _ (GJ h.2.2.1) fun x hx => ?_
 have:=fK (h.2.2.2 x hx);have dO:=h.2.1;unfold aBF;rw [Ch];refine ⟨x.2.toNat,iY.2 (by omega),bX.2 ⟨x.1.toNat,iY.2 (by omega),?_⟩⟩;rw [jF (by omega),jF (by omega)]
theorem abf {n:Nat} {es:aa Ed} (h:GrOk n es):jT n es=true:=by
 unfold jT;rw [show aW (n:Int) 1 12=true from aV.2 (by have:=h.1;have:=h.2.1;omega),QM h (QY h)];rfl
theorem aqX {n:Nat} {es:aa Ed} (h:jT n es=true) (h2:2<=n):GrOk n es:=by
 unfold jT at h;rw [aU,aV] at h;obtain ⟨h3,h4,_⟩:=lc h.2;exact ⟨by omega,by omega,h4,h3⟩
theorem WOk.con {n:Nat} {L:aa aC} (hw:WOk n L) {y:aC} (hy:y∈L) (ht:y.2.2.2=false):Con (aM L y.2.2.1) y.1 y.2.1:=by
 have hr:=fK ((jY hw.gr).1 (y.1,y.2.1) (bX.2 ⟨y,hy,rfl⟩));exact (lg hw.gr _ ⟨hr.1,hr.2.1⟩ ⟨hr.2.2.1,hr.2.2.2.1⟩).1 (hw.un y hy ht)
theorem WOk.same {n:Nat} {L:aa aC} (hw:WOk n L) (u v:Int):Con (aM L 0) u v↔Con (gE L) u v:=by
 constructor
 ·intro h;exact h.mono fun e he=>(Sl L 0).subset he
 ·intro h;refine h.sub fun e he => ?_
  obtain ⟨y,hy,rfl⟩:=bX.1 he;have hl:=(hw.lv y hy).1;cases ht:y.2.2.2 with
  | true=>exact .of (iJ.2 ⟨y,hy,ht,hl,rfl⟩)
  | false=>exact (hw.con hy ht).mono (vL hl)
theorem WOk.labs {n:Nat} {L:aa aC} (hw:WOk n L):labs n (aM L 0)=labs n (gE L):=by
 have hE:oN n (gE L):=fun e he=>by
  have:=fK ((jY hw.gr).1 e he);exact ⟨this.1,this.2.1,this.2.2.1,this.2.2.2.1⟩
 exact (kZ (jA hw.gr 0)).uniq (kZ hE) hw.same
section
variable {n:Nat} {L:aa aC} (hw:WOk n L) {e:Ed}
include hw
theorem aqY {old:aC} (ho:old∈L) (Nw:(old.1,old.2.1)=e) :
  WOk n (if old.2.2.2=true then (xX n e (old.2.2.1.toNat+1) (L.filter fun y=>decide ((y.1,y.2.1)≠e))).1 else L.filter fun y=>decide ((y.1,y.2.1)≠e)) /\
  gE (if old.2.2.2=true then (xX n e (old.2.2.1.toNat+1) (L.filter fun y=>decide ((y.1,y.2.1)≠e))).1 else L.filter fun y=>decide ((y.1,y.2.1)≠e))=del (gE L) e:=by
 have bn:e∈gE L:=bX.2 ⟨old,ho,Nw⟩;obtain ⟨mD,VH,Rf⟩:=jY hw.gr;have iX:=fK (mD e bn);have hgR:gE (L.filter fun y=>decide ((y.1,y.2.1)≠e))=del (gE L) e:=by
  rw [QW L fun y=>decide (y≠e)];unfold del;congr 1;funext y;rw [decide_not]
 have hG:=aqX hw.gr (by omega);have gZ:jT n (gE (L.filter fun y=>decide ((y.1,y.2.1)≠e)))=true:=by
  rw [hgR];exact abf hG.del
 have hm:∀y,y∈(L.filter fun y=>decide ((y.1,y.2.1)≠e))↔y∈L/\(y.1,y.2.1)≠e:=fun y=>by
  rw [jK,decide_eq_true_eq]
 have gM:∀(j:Int) (f:Ed),f∈aM (L.filter fun y=>decide ((y.1,y.2.1)≠e)) j->f∈aM L j:=by
  intro j f hf;obtain ⟨y,hy,ht,hl,he⟩:=iJ.1 hf;exact iJ.2 ⟨y,((hm y).1 hy).1,ht,hl,he⟩
 have aX:∀(j:Int) (f:Ed),f∈aM (L.filter fun y=>decide ((y.1,y.2.1)≠e)) j->f≠e:=by
  intro j f hf;obtain ⟨y,hy,ht,hl,he⟩:=iJ.1 hf;rw [<-he];exact ((hm y).1 hy).2
 have ars:∀(j:Int) (f:Ed),f∈aM L j->f≠e->f∈aM (L.filter fun y=>decide ((y.1,y.2.1)≠e)) j:=by
  intro j f hf hfe;obtain ⟨y,hy,ht,hl,he⟩:=iJ.1 hf;exact iJ.2 ⟨y,(hm y).2 ⟨hy,by rw [he];exact hfe⟩,ht,hl,he⟩
 have lW:∀j:Int,e∈aM L j->old.2.2.2=true/\j<=old.2.2.1:=by
  intro j hf;obtain ⟨y,hy,ht,hl,he⟩:=iJ.1 hf;have:=auE VH hy ho (he.trans Nw.symm);subst this;exact ⟨ht,hl⟩
 generalize hR:(L.filter fun y=>decide ((y.1,y.2.1)≠e))=R at *
 have hnc:NoCyc (aM R 0):=hw.nc.sub fun f hf=>gM 0 f hf
 have dF:∀j:Nat,1<=j->j<=4->∀f,f∈aM R j->cz n (aM R j) f.1<=n / 2 ^ j:=by
  intro j j1 j4 f hf;have yL:=jA gZ j f hf;exact kg (oP (jA gZ j) (jA hw.gr j) ⟨yL.1,yL.2.1⟩ ⟨yL.1,yL.2.1⟩ fun x hx=>hx.mono fun g hg=>gM j g hg) (hw.sz j j1 j4 f (gM j f hf))
 cases ht:old.2.2.2 with
 | false=>
  rw [if_neg (by simp)];refine ⟨⟨gZ,fun x hx=>hw.lv x ((hm x).1 hx).1,hnc,fun x hx Ri => ?_,dF⟩,hgR⟩;have hr:=fK ((jY gZ).1 (x.1,x.2.1) (bX.2 ⟨x,hx,rfl⟩));refine (lg gZ _ ⟨hr.1,hr.2.1⟩ ⟨hr.2.2.1,hr.2.2.2.1⟩).2 ((hw.con ((hm x).1 hx).1 Ri).mono fun f hf=>ars _ f hf ?_);rintro rfl;have:=(lW _ hf).1;rw [ht] at this;cases this
 | true=>
  rw [if_pos rfl];have lJ:=hw.lv old ho;have art:∀j:Int,j<=old.2.2.1->e∈aM L j:=fun j hj=>iJ.2 ⟨old,ho,ht,hj,Nw⟩
  have h3:old.2.2.1<=3:=by
   apply yM;intro eD;have h4:=hw.sz 4 (by omega) (by omega) e (art _ (by omega));rw [ajQ] at h4;have h5:=aBD (jA hw.gr ((4:Nat):Int)) (v:=e.1) ⟨iX.1,iX.2.1⟩;have h6:=(zI hw.gr).2;have:n / 2 ^ 4=0:=Nat.div_eq_of_lt (by omega);omega
  have hI:Inv n R e (old.2.2.1.toNat:Int):=by
   rw [jF lJ.1];refine ⟨gZ,fun x hx=>hw.lv x ((hm x).1 hx).1,hnc,fun h => ?_,fun x hx Ri hk => ?_,fun x hx Ri hk => ?_,dF,fun j hj => ?_⟩
   ·exact hw.nc e (art 0 lJ.1) (h.mono fun f hf=>mV.2 ⟨gM 0 f hf,aX 0 f hf⟩)
   ·refine (hw.con ((hm x).1 hx).1 Ri).mono fun f hf=>ars _ f hf ?_
    rintro rfl;have:=(lW _ hf).2;omega
   ·refine (hw.con ((hm x).1 hx).1 Ri).mono fun f hf => ?_
    by_cases hfe:f=e
    ·exact jD _ (cK.2 hfe)
    ·exact jl _ (ars _ f hf hfe)
   ·have h1:cz n (aM R j++[e]) e.1<=cz n (aM L j) e.1:=by
     refine oP (fun f hf => ?_) (jA hw.gr j) ⟨iX.1,iX.2.1⟩ ⟨iX.1,iX.2.1⟩ fun x hx=>hx.mono fun f hf => ?_
     ·rcases bG.1 hf with h|h
      ·exact jA gZ j f h
      ·rw [cK.1 h];exact ⟨iX.1,iX.2.1,iX.2.2.1,iX.2.2.2.1⟩
     ·rcases bG.1 hf with h|h
      ·exact gM j f h
      ·rw [cK.1 h];exact art j hj
    by_cases j0:j=0
    ·subst j0;have:=aDo n (aM R ((0:Nat):Int)++[e]) e.1;simpa using this
    ·exact kg h1 (hw.sz j (by omega) (by omega) e (art j hj))
  have:=an3 (n:=n) (e:=e) ⟨iX.1,iX.2.1⟩ ⟨iX.2.2.1,iX.2.2.2.1⟩ (old.2.2.1.toNat+1) R (by omega) (by rw [show ((old.2.2.1.toNat+1:Nat):Int)-1=(old.2.2.1.toNat:Int) from by omega];exact hI);exact ⟨this.1,this.2.trans hgR⟩
theorem auF (he:eF n e=true) (aX:e∉gE L) :
  WOk n (L.filter (fun y=>lsB (y.1,y.2.1) e)++[(e.1,e.2,0,!decide (bA n L 0 e.1=bA n L 0 e.2))]++L.filter (fun y=>lsB e (y.1,y.2.1))) /\
  gE (L.filter (fun y=>lsB (y.1,y.2.1) e)++[(e.1,e.2,0,!decide (bA n L 0 e.1=bA n L 0 e.2))]++L.filter (fun y=>lsB e (y.1,y.2.1)))=ins (gE L) e:=by
 have iX:=fK he;have hG:=aqX hw.gr (by omega);have hgR:gE (L.filter (fun y=>lsB (y.1,y.2.1) e)++[(e.1,e.2,0,!decide (bA n L 0 e.1=bA n L 0 e.2))]++L.filter (fun y=>lsB e (y.1,y.2.1)))=ins (gE L) e:=by
  have h1:=QW L fun y=>lsB y e
  have h2:=QW L fun y=>lsB e y
  unfold ins;rw [<-h1,<-h2];unfold gE;simp only [uH,bv,bI]
 have hm:∀y,y∈(L.filter (fun y=>lsB (y.1,y.2.1) e)++[(e.1,e.2,0,!decide (bA n L 0 e.1=bA n L 0 e.2))]++L.filter (fun y=>lsB e (y.1,y.2.1)))↔y=(e.1,e.2,0,!decide (bA n L 0 e.1=bA n L 0 e.2))\/y∈L:=by
  intro y;simp only [bG,jK,cK];constructor
  ·rintro ((h|h)|h)
   ·exact .inr h.1
   ·exact .inl h
   ·exact .inr h.1
  ·rintro (h|h)
   ·exact .inl (.inr h)
   ·cases h1:lsB (y.1,y.2.1) e with
    | true=>exact .inl (.inl ⟨h,rfl⟩)
    | false=>
     cases h2:lsB e (y.1,y.2.1) with
     | true=>exact .inr ⟨h,rfl⟩
     | false=>exact absurd (bX.2 ⟨y,h,Sa h1 h2⟩) aX
 have gZ:jT n (gE (L.filter (fun y=>lsB (y.1,y.2.1) e)++[(e.1,e.2,0,!decide (bA n L 0 e.1=bA n L 0 e.2))]++L.filter (fun y=>lsB e (y.1,y.2.1))))=true:=by
  rw [hgR];exact abf (hG.ins he)
 generalize (L.filter (fun y=>lsB (y.1,y.2.1) e)++[(e.1,e.2,0,!decide (bA n L 0 e.1=bA n L 0 e.2))]++L.filter (fun y=>lsB e (y.1,y.2.1)))=R at hgR hm gZ ⊢;have qp:∀(j:Int) (f:Ed),f∈aM R j↔f∈aM L j\/(f=e/\bA n L 0 e.1≠bA n L 0 e.2/\j<=0):=by
  intro j f;rw [iJ,iJ];constructor
  ·rintro ⟨y,hy,ht,hl,hf⟩;rcases (hm y).1 hy with rfl|hy
   ·simp only [sK,decide_eq_false_iff_not] at ht hl hf;exact .inr ⟨hf.symm,ht,hl⟩
   ·exact .inl ⟨y,hy,ht,hl,hf⟩
  ·rintro (⟨y,hy,ht,hl,hf⟩|⟨rfl,ht,hl⟩)
   ·exact ⟨y,(hm y).2 (.inr hy),ht,hl,hf⟩
   ·exact ⟨_,(hm _).2 (.inl rfl),by simp [ht],hl,rfl⟩
 have jX:=lg hw.gr 0 (u:=e.1) (v:=e.2) ⟨iX.1,iX.2.1⟩ ⟨iX.2.2.1,iX.2.2.2.1⟩;refine ⟨⟨gZ,fun x hx => ?_,?_,fun x hx Ri => ?_,fun j j1 j4 f hf => ?_⟩,hgR⟩
 ·rcases (hm x).1 hx with rfl|hx
  ·simp
  ·exact hw.lv x hx
 ·by_cases hc:bA n L 0 e.1=bA n L 0 e.2
  ·refine hw.nc.sub fun f hf => ?_
   rcases (qp 0 f).1 hf with h|h
   ·exact h
   ·exact absurd hc h.2.1
  ·refine (Mo hw.nc (fun h=>hc (jX.2 h))).sub fun f hf => ?_
   rcases (qp 0 f).1 hf with h|h
   ·exact jl _ h
   ·exact jD _ (cK.2 h.1)
 ·have hr:=fK ((jY gZ).1 (x.1,x.2.1) (bX.2 ⟨x,hx,rfl⟩));refine (lg gZ _ ⟨hr.1,hr.2.1⟩ ⟨hr.2.2.1,hr.2.2.2.1⟩).2 ?_;rcases (hm x).1 hx with rfl|hx
  ·simp only [Bool.not_eq_false',decide_eq_true_eq] at Ri;exact (jX.1 Ri).mono fun f hf=>(qp 0 f).2 (.inl hf)
  ·exact (hw.con hx Ri).mono fun f hf=>(qp _ f).2 (.inl hf)
 ·have ku:f∈aM L j:=by
   rcases (qp j f).1 hf with h|h
   ·exact h
   ·have:=h.2.2;omega
  have yL:=jA gZ j f hf;rw [ajQ];refine kg (oP (jA gZ j) (jA hw.gr j) ⟨yL.1,yL.2.1⟩ ⟨yL.1,yL.2.1⟩ fun x hx=>hx.mono fun g hg => ?_) (hw.sz j j1 j4 f ku);rcases (qp j g).1 hg with h|h
  ·exact h
  ·have:=h.2.2;omega
end
theorem an4 {n:Nat} {E:aa Ed} (h:oN n E):sj (n:Int) (labs n E)=true:=by
 have hL:=kZ h;unfold sj;rw [if_pos (by rw [dU]),if_pos];intro i hi;have hg:=aR hi;unfold lbP;rw [hg];simp only;have h1:=hL.le hg;have h2:=hL.lt hg;rw [hL.self hg,aV.2 (by omega)];simp
theorem ajT {n:Nat} {L:aa aC} (hw:WOk n L) {y:Ed} (hy:y∈gE L):(WT ((n:Int),L) y).1=n/\(WT ((n:Int),L) y).2.2.2.2.2=true/\WOk n (WT ((n:Int),L) y).2.1/\gE (WT ((n:Int),L) y).2.1=del (gE L) y:=by
 have Rf:=(jY hw.gr).2.2;obtain ⟨r,h1,_,_,_,h5⟩:=QV n L y (by omega);have hr:WT ((n:Int),L) y=r:=by unfold WT;rw [h1];rfl
 rw [hr];obtain ⟨old,o1,o2,o3,o4,o5⟩:=h5 ⟨by omega,by rw [il];exact hw,hy⟩;rw [il] at o5;have:=aqY hw o1 o2;rw [<-o5] at this;exact ⟨o3,o4,this.1,this.2⟩
theorem ajU {n:Nat} {L:aa aC} (hw:WOk n L) {y:Ed} (he:eF n y=true) (hy:y∉gE L):(WA ((n:Int),L) y).1=n/\(WA ((n:Int),L) y).2.2=true/\WOk n (WA ((n:Int),L) y).2.1/\gE (WA ((n:Int),L) y).2.1=ins (gE L) y:=by
 have Rf:=(jY hw.gr).2.2;obtain ⟨r,h1,_,_,_,h5⟩:=Xk n L y (by omega);have hr:WA ((n:Int),L) y=r:=by unfold WA;rw [h1];rfl
 have h6:=h5 ⟨by omega,by rw [il];exact hw,he,hy⟩;rw [il] at h6;rw [hr,h6];exact ⟨rfl,rfl,auF hw he hy⟩
theorem aBG {n:Nat} {L:aa aC} (hw:WOk n L) {y:Ed} (hy:y∉gE L):(WT ((n:Int),L) y).2.2.2.2.2=false:=by
 have Rf:=(jY hw.gr).2.2;obtain ⟨r,h1,_,_,h5,_⟩:=QV n L y (by omega);have hr:WT ((n:Int),L) y=r:=by unfold WT;rw [h1];rfl
 rw [hr,h5 (fun h=>hy h.2.2)]
theorem auG {n:Nat} {L:aa aC} (hw:WOk n L) {y:Ed} (hy:y∈gE L):(WA ((n:Int),L) y).2.2=false:=by
 have Rf:=(jY hw.gr).2.2;obtain ⟨r,h1,_,_,h5,_⟩:=Xk n L y (by omega);have hr:WA ((n:Int),L) y=r:=by unfold WA;rw [h1];rfl
 rw [hr,h5 (fun h=>h.2.2.2 hy)]
def Bl (v:Int) (y:Ed):Bool:=decide (y.1=v\/y.2=v)
theorem QZ {n:Nat} (v:Int):∀(es:aa Ed) (L:aa aC) (out:aa Ed),WOk n L->es.Nodup->(∀y,y∈es->y∈gE L) ->
  (es.foldl (iQ v) (((n:Int),L),out)).1.1=n/\WOk n (es.foldl (iQ v) (((n:Int),L),out)).1.2/\(∀x,x∈gE (es.foldl (iQ v) (((n:Int),L),out)).1.2↔x∈gE L/\¬(x∈es/\Bl v x=true))/\(es.foldl (iQ v) (((n:Int),L),out)).2=out++es.filter (Bl v)
 | [],L,out,hw,_,_=>by simp [hw]
 | y::es,L,out,hw,hn,bn=>by
  rw [nJ] at hn;rw [gH];by_cases hc:y.1=v\/y.2=v
  ·have hs:iQ v (((n:Int),L),out) y=(((WT ((n:Int),L) y).1,(WT ((n:Int),L) y).2.1),out++[y]):=by unfold iQ;rw [if_pos hc]
   obtain ⟨t1,_,t3,t4⟩:=ajT hw (bn y (dW ..));rw [hs,t1];obtain ⟨g1,g2,g3,g4⟩:=QZ v es (WT ((n:Int),L) y).2.1 (out++[y]) t3 hn.2 (fun z hz=>by
    rw [t4,oO]
    exact ⟨bn z (dQ _ hz),by rintro rfl;exact hn.1 hz⟩)
   refine ⟨g1,g2,fun x => ?_,?_⟩
   ·rw [g3,t4,oO,aY];constructor
    ·rintro ⟨⟨h1,h2⟩,h3⟩;refine ⟨h1,?_⟩;rintro ⟨rfl|h4,h5⟩
     ·exact h2 rfl
     ·exact h3 ⟨h4,h5⟩
    ·rintro ⟨h1,h2⟩;refine ⟨⟨h1,?_⟩,fun h=>h2 ⟨.inr h.1,h.2⟩⟩;rintro rfl;exact h2 ⟨.inl rfl,by unfold Bl;rw [ak hc]⟩
   ·rw [g4,List.filter_cons_of_pos (by unfold Bl;rw [ak hc]),lK];rfl
  ·have hs:iQ v (((n:Int),L),out) y=(((n:Int),L),out):=by unfold iQ;rw [if_neg hc]
   rw [hs];obtain ⟨g1,g2,g3,g4⟩:=QZ v es L out hw hn.2 (fun z hz=>bn z (dQ _ hz));have qp:¬Bl v y=true:=by unfold Bl;rw [az hc];simp
   refine ⟨g1,g2,fun x => ?_,?_⟩
   ·rw [g3,aY];constructor
    ·rintro ⟨h1,h2⟩;refine ⟨h1,?_⟩;rintro ⟨rfl|h4,h5⟩
     ·exact qp h5
     ·exact h2 ⟨h4,h5⟩
    ·rintro ⟨h1,h2⟩;exact ⟨h1,fun h=>h2 ⟨.inr h.1,h.2⟩⟩
   ·rw [g4,List.filter_cons_of_neg qp]
theorem ajV (v:Int):∀(es:aa Ed) (s:Wb × aa Ed),es.filter (Bl v)=[]->es.foldl (iQ v) s=s
 | [],s,_=>rfl
 | y::es,s,h=>by
  have qp:¬Bl v y=true:=fun hh=>by
   rw [List.filter_cons_of_pos hh] at h
   cases h
  rw [List.filter_cons_of_neg qp] at h
  have hs:iQ v s y=s:=by
   unfold iQ;rw [if_neg];intro hc;exact qp (by unfold Bl;rw [ak hc])
  rw [gH,hs]
  exact ajV v es s h
theorem Q0 {n:Nat}:∀(es:aa Ed) (L:aa aC) (b:Bool),WOk n L->(∀y,y∈es->eF n y=true) ->
  (es.foldl jr (((n:Int),L),b)).1.1=n/\WOk n (es.foldl jr (((n:Int),L),b)).1.2/\(∀x,x∈gE (es.foldl jr (((n:Int),L),b)).1.2↔x∈gE L\/x∈es)/\(es.Nodup->(∀y,y∈es->y∉gE L)->(es.foldl jr (((n:Int),L),b)).2=b)
 | [],L,b,hw,_=>by simp [hw]
 | y::es,L,b,hw,he=>by
  rw [gH]
  have Hf:∀z,z∈es->eF n z=true:=fun z hz=>he z (dQ _ hz)
  by_cases hy:y∈gE L
  ·have hb:=auG hw hy
   have hs:jr (((n:Int),L),b) y=(((n:Int),L),false):=by
    unfold jr;simp only [hb,iK,if_false,Bool.and_false]
   rw [hs]
   obtain ⟨g1,g2,g3,g4⟩:=Q0 es L false hw Hf
   refine ⟨g1,g2,fun x => ?_,fun _ h=>absurd hy (h y (dW ..))⟩
   rw [g3,aY]
   constructor
   ·rintro (h|h)
    ·exact .inl h
    ·exact .inr (.inr h)
   ·rintro (h|rfl|h)
    ·exact .inl h
    ·exact .inl hy
    ·exact .inr h
  ·obtain ⟨t1,t2,t3,t4⟩:=ajU hw (he y (dW ..)) hy
   have hs:jr (((n:Int),L),b) y=(((n:Int),(WA ((n:Int),L) y).2.1),b):=by
    unfold jr
    simp only [t2,if_true,wE]
    rw [t1]
   rw [hs]
   obtain ⟨g1,g2,g3,g4⟩:=Q0 es _ b t3 Hf
   refine ⟨g1,g2,fun x => ?_,fun hn h => ?_⟩
   ·rw [g3,t4,mG,aY]
    constructor
    ·rintro ((h|h)|h)
     ·exact .inr (.inl h)
     ·exact .inl h
     ·exact .inr (.inr h)
    ·rintro (h|h|h)
     ·exact .inl (.inr h)
     ·exact .inl (.inl h)
     ·exact .inr h
   ·rw [nJ] at hn
    refine g4 hn.2 fun z hz hzi => ?_
    rw [t4,mG] at hzi
    rcases hzi with rfl|hzi
    ·exact hn.1 hz
    ·exact h z (dQ _ hz) hzi
structure ShR (x0:Int) (n:Nat) (L:List aC) (y:An):Prop where
 id:1<=x0/\x0<=3
 web:WOk n L
 an:blA y=true\/pW n y=true/\y.2.2.2=labs n (aM L 0)
theorem ShR.len {x0:Int} {n:Nat} {L:aa aC} {y:An} (h:ShR x0 n L y):L.length<=66/\y.2.2.1.length<=66/\y.2.2.2.length<=12/\0<=y.1/\y.1<=100000:=by
 have h1:=(jY h.web.gr).2.2;have dO:=(zI h.web.gr).2;rcases h.an with hb|⟨ha,hl⟩
 ·unfold blA at hb;simp only [aU,sK,decide_eq_true_eq] at hb;omega
 ·unfold pW at ha;simp only [aU] at ha;have h2:=aV.1 ha.2.1;have h3:=jV ha.2.2.1;rw [hl,dU];omega
theorem ShR.okBoth {x0:Int} {n:Nat} {L:aa aC} {y:An} (h:ShR x0 n L y):CQ (x0,(n:Int),L,y)=some (true,())/\CF (x0,(n:Int),L,y)=some (true,()):=by
 have hl:=h.len;obtain ⟨b,b1,b2,b3⟩:=afl x0 n L y (by omega) (by omega) (by omega);have:b=true:=b3.2 ⟨h.id,by omega,by rw [il];exact h.web,by rw [il];exact h.an⟩;rw [this] at b1 b2;exact ⟨b1,b2⟩
def aBH:Int × Int × aa aC × Int × Bool × aa Ed × aa Int × Int × Bool × aa Ed × aa Int × Int:=((0:Int),(0:Int),[],(0:Int),false,[],[],(0:Int),false,[],[],(1:Int))
def zM (x0:Int) (n:Int) (L:aa aC) (y:An):Int × Int × aa aC × Int × Bool × aa Ed × aa Int × Int × Bool × aa Ed × aa Int × Int:=(x0,n,L,y.1,y.2.1,y.2.2.1,y.2.2.2,y.1,y.2.1,y.2.2.1,y.2.2.2,(0:Int))
structure Dne (n:Nat) (L L':List aC) (o:Be) (y:An):Prop where
 num:y.1=o.1
 lab:y.2.2.2=labs n (aM L' 0)
 add:o.2.1=1\/o.2.1=4->(∀x,x∈gE L'↔x∈gE L\/x∈o.2.2.1)/\((∀z,z∈o.2.2.1->z∉gE L)->y.2.1=true)/\y.2.2.1=[]/\∀e,o.2.2.1=[e]->y.2.1 = !decide (e∈gE L)
 take:o.2.1=2->∃e,o.2.2.1=[e]/\gE L'=del (gE L) e/\y.2.1=decide (e∈gE L)/\y.2.2.1=[]
 rel:o.2.1=3->(∀x,x∈gE L'↔x∈gE L/\Bl o.2.2.2 x=false)/\y.2.1=true/\y.2.2.1=(gE L).filter (Bl o.2.2.2)/\(y.2.2.1=[]->L'=L)
theorem aqZ {x0 : Int} {n : Nat} {L : aa aC} {y : An} (h : ShR x0 n L y) (o : Be) (ho : o.2.2.1.length ≤ 1048576) :
    (oM ((x0, (n : Int), L, y), o) = some (aBH, ()) ∧ nG ((x0, (n : Int), L, y), o) = some (aBH, ()) ∧ (pV n o = false ∨ (o.1 ≠ y.1 ∧ o.1 ≠ y.1 + 1))) ∨
    (oM ((x0, (n : Int), L, y), o) = some (zM x0 n L y, ()) ∧ nG ((x0, (n : Int), L, y), o) = some (zM x0 n L y, ()) ∧ pV n o = true ∧ o.1 = y.1) ∨
    (pV n o = true ∧ o.1 = y.1 + 1 ∧ ∃ (L' : aa aC) (z : An), oM ((x0, (n : Int), L, y), o) = some (zM x0 n L' z, ()) ∧ nG ((x0, (n : Int), L, y), o) = some (zM x0 n L' z, ()) ∧ ShR x0 n L' z ∧ Dne n L L' o z) := by
  obtain ⟨b1, b2⟩ := h.okBoth;obtain ⟨hL, h1, h2, hy0, Q5⟩ := h.len;have hO1 := Mf n o ho;have hO2 := Me n o ho;have hg := h.web.gr;have aFR := zI hg;have e1 := anK BIG (x0, (n : Int), L, y) o;have e2 := ank BIG (x0, (n : Int), L, y) o;have f1 : R9 BIG ((x0, (n : Int), L, y), o) = oM ((x0, (n : Int), L, y), o) := rfl;have f2 : R6 BIG ((x0, (n : Int), L, y), o) = nG ((x0, (n : Int), L, y), o) := rfl;rw [f1] at e1;rw [f2] at e2;rw [b1, af] at e1;rw [b2, af] at e2;simp only [bB, ax, hO1, hO2, af] at e1 e2;cases hob : pV n o with
  | false =>
    rw [hob] at e1 e2;exact .inl ⟨e1, e2, .inl rfl⟩
  | true =>
    rw [hob] at e1 e2;simp only [bB, ax] at e1 e2;by_cases hn : o.1 = y.1
    · rw [ak hn, xY x0 n L y (by omega) (by omega) (by omega), qd y (by omega) (by omega)] at e1
      rw [ak hn, xZ x0 n L y (by omega) (by omega) (by omega), mW y (by omega) (by omega)] at e2
      exact .inr (.inl ⟨e1, e2, rfl, hn⟩)
    · rw [az hn, wr (n := y.1 + 1) (by omega) (by omega)] at e1 e2
      simp only [gW, ai, af, ax] at e1 e2
      by_cases hw : o.1 = y.1 + 1
      case neg =>
        rw [az hw] at e1 e2;exact .inl ⟨e1, e2, .inr ⟨hn, hw⟩⟩
      rw [ak hw] at e1 e2
      simp only [bB, ax] at e1 e2
      rw [xY x0 n L y (by omega) (by omega) (by omega), af] at e1
      simp only at e1
      refine .inr (.inr ⟨rfl, hw, ?_⟩)
      -- what follows every change
      have tail : ∀ (M : aa aC) (ok : Bool) (es : aa Ed) (p : ah ((Int × Int × aa aC × An) × An)) (q : ah ((Int × aa aC) × An)), p = some ((x0, (n : Int), M, y), (o.1, ok, es, [])) → q = some (((n : Int), M), (o.1, ok, es, [])) → WOk n M → mg n es = true →
          (Option.bind p fun x11 =>
  Option.bind (mQ (x11.1.2.1, x11.1.2.2.1)) fun r12 =>
  Option.bind (lw (x11.2.1, x11.2.2.1, x11.2.2.2.1, r12.1)) fun r13 =>
  some ((x11.1.1, x11.1.2.1, x11.1.2.2.1, r13.1.1, r13.1.2.1, r13.1.2.2.1, r13.1.2.2.2, x11.2.1, x11.2.2.1, x11.2.2.2.1, r12.1, (0 : Int)), ())) = some (zM x0 n M (o.1, ok, es, labs n (aM M 0)), ()) ∧ (Option.bind q fun x32 =>
  Option.bind (mP x32.1) fun r33 =>
  Option.bind (pO (x0, x32.1.1, x32.1.2, x32.2.1, x32.2.2.1, x32.2.2.2.1, r33.1)) fun r34 =>
  Option.bind (jy (x32.2.1, x32.2.2.1, x32.2.2.2.1, r33.1)) fun r35 =>
  some ((r34.1.1, r34.1.2.1, r34.1.2.2.1, r34.1.2.2.2.1, r34.1.2.2.2.2.1, r34.1.2.2.2.2.2.1, r34.1.2.2.2.2.2.2, r35.1.1, r35.1.2.1, r35.1.2.2.1, r35.1.2.2.2, (0 : Int)), ())) = some (zM x0 n M (o.1, ok, es, labs n (aM M 0)), ()) ∧ ShR x0 n M (o.1, ok, es, labs n (aM M 0)) := by
        intro M ok es p q hp hq hM qo;have hM6 := (jY hM.gr).2.2;have aHX := jV qo;have hll := dU n (aM M 0);obtain ⟨V, v1, v2, _⟩ := Ff n M (by omega);obtain ⟨V', v1', v2', _⟩ := Fh n M (by omega);rw [v2 hM] at v1;rw [v2' hM] at v1';have i1 := qd (o.1, ok, es, labs n (aM M 0)) (by simp only; omega) (by simp only; omega);have i2 := xZ x0 n M (o.1, ok, es, labs n (aM M 0)) (by omega) (by simp only; omega) (by simp only; omega);have i3 := mW (o.1, ok, es, labs n (aM M 0)) (by simp only; omega) (by simp only; omega);subst hp hq;simp only [af, v1, v1', i1, i2, i3];refine ⟨rfl, rfl, h.id, hM, .inr ⟨?_, rfl⟩⟩;unfold pW;unfold pV at hob;simp only [aU] at hob ⊢;exact ⟨hob.1, hob.2.1, qo, an4 (jA hM.gr 0)⟩
      have Xv := hob
      unfold pV at Xv
      simp only [aU] at Xv
      obtain ⟨d1, _, d3, d4, d5⟩ := Xv
      have d3' := aV.1 d3
      have hol := jV d4
      have e0 : mg (n : Int) [] = true := by
        unfold mg;rw [if_pos (fun i hi => absurd hi (by simp))];rfl
      obtain ⟨mD, VH, _⟩ := jY hg
      have akt : uA (gE L) := by
        have h := hg;unfold jT at h;rw [aU] at h;exact (lc h.2).2.1
      by_cases c2' : o.2.1 = 2
      · rw [if_neg (by omega), if_neg (by omega)] at d5
        simp only [aU, decide_eq_true_eq] at d5
        obtain ⟨e, he⟩ := List.length_eq_one_iff.1 d5.1
        obtain ⟨t1, t2, t3⟩ := abb (W := ((n : Int), L)) e (by simp only; omega)
        rw [ak c2', he] at e1
        rw [ak c2', az (show ¬ o.2.1 = 1 from by omega), az (show ¬ o.2.1 = 4 from by omega), he] at e2
        by_cases bn : e ∈ gE L
        · obtain ⟨k1, k2, k3, k4⟩ := ajT h.web bn
          obtain ⟨g1, g2, g3⟩ := tail (WT ((n : Int), L) e).2.1 true [] (Option.bind (jR (((n : Int), L), e)) fun r7 => Option.bind (bif r7.1.2.2.2.2.2 then some (x0, r7.1.1, r7.1.2.1, y) else some (x0, (n : Int), L, y)) fun x8 => some (x8, (o.1, r7.1.2.2.2.2.2, [], []))) (Option.bind (kI (((n : Int), L), e)) fun r16 => Option.bind (bif r16.1.2.2.2.2.2 then some (r16.1.1, r16.1.2.1) else some ((n : Int), L)) fun x17 => some (x17, (o.1, r16.1.2.2.2.2.2, [], [])))
            (by rw [t1, af, k2, ai, af, k1]) (by rw [t2, af, k2, ai, af, k1]) k3 e0
          refine ⟨_, _, e1.trans g1, e2.trans g2, g3, rfl, rfl, fun hc => by omega, fun _ => ⟨e, he, k4, by rw [ak bn], rfl⟩, fun hc => by omega⟩
        · have k2 := aBG h.web bn
          obtain ⟨g1, g2, g3⟩ := tail L false [] (Option.bind (jR (((n : Int), L), e)) fun r7 => Option.bind (bif r7.1.2.2.2.2.2 then some (x0, r7.1.1, r7.1.2.1, y) else some (x0, (n : Int), L, y)) fun x8 => some (x8, (o.1, r7.1.2.2.2.2.2, [], []))) (Option.bind (kI (((n : Int), L), e)) fun r16 => Option.bind (bif r16.1.2.2.2.2.2 then some (r16.1.1, r16.1.2.1) else some ((n : Int), L)) fun x17 => some (x17, (o.1, r16.1.2.2.2.2.2, [], [])))
            (by rw [t1, af, k2, ax, af]) (by rw [t2, af, k2, ax, af]) h.web e0
          refine ⟨_, _, e1.trans g1, e2.trans g2, g3, rfl, rfl, fun hc => by omega, fun _ => ⟨e, he, ?_, by rw [az bn], rfl⟩, fun hc => by omega⟩
          unfold del
          rw [List.filter_eq_self.2]
          intro z hz
          rw [sK, decide_eq_false_iff_not]
          rintro rfl
          exact bn hz
      · by_cases c3' : o.2.1 = 3
        · rw [az c2', ak c3', ax, ai] at e1
          rw [az c2', ak c3', az (show ¬ o.2.1 = 1 from by omega), az (show ¬ o.2.1 = 4 from by omega), ax, af, ax, ax, ai, xR n L (by omega), af] at e2
          have hgl : (gE L).length = L.length := by unfold gE; rw [dX]
          have r1 := afn x0 n L y (by omega) o.2.2.2
          have r2 := abd n L (by omega) o.2.2.2 o.1 (gE L) (by omega)
          obtain ⟨k1, k2, k3, k4⟩ := QZ o.2.2.2 (gE L) L [] h.web VH (fun _ hz => hz)
          have hfe : mg (n : Int) ((gE L).filter (Bl o.2.2.2)) = true := by
            by_cases hn2 : 2 ≤ n
            · have hG := aqX hg hn2
              exact QM ⟨hG.1, hG.2.1, akt.filter _, fun z hz => mD z (jK.1 hz).1⟩ (by
                have := qM (Bl o.2.2.2) (gE L)
                omega)
            · have : gE L = [] := by
                cases aFS : gE L with
                | nil => rfl
                | cons z zs =>
                  have := fK (mD z (by rw [aFS]; exact dW ..));omega
              rw [this]
              exact e0
          obtain ⟨g1, g2, g3⟩ := tail ((gE L).foldl (iQ o.2.2.2) (((n : Int), L), [])).1.2 true ((gE L).filter (Bl o.2.2.2)) (Option.bind (pQ ((x0, (n : Int), L, y), o.2.2.2)) fun r9 => some (r9.2, (o.1, true, r9.1, []))) (some (((gE L).foldl (iQ o.2.2.2) (((n : Int), L), [])).1, (o.1, true, ((gE L).foldl (iQ o.2.2.2) (((n : Int), L), [])).2, [])))
            (by rw [r1, af, k1, k4]; rfl) (by rw [k4, gQ]; congr 2; exact Prod.ext k1 rfl) k2 hfe
          refine ⟨_, _, e1.trans g1, e2.trans ((congrArg (fun q => Option.bind q _) r2).trans g2), g3, rfl, rfl, fun hc => by omega, fun hc => by omega, fun _ => ⟨fun x => ?_, rfl, rfl, fun aFT => ?_⟩⟩
          · rw [k3]
            constructor
            · rintro ⟨p1, p2⟩
              refine ⟨p1, ?_⟩
              cases hc : Bl o.2.2.2 x with
              | false => rfl
              | true => exact absurd ⟨p1, hc⟩ p2
            · rintro ⟨p1, p2⟩
              exact ⟨p1, fun hc => by rw [p2] at hc; cases hc.2⟩
          · have := ajV o.2.2.2 (gE L) (((n : Int), L), []) aFT
            rw [this]
        · rw [az c2', az c3', ax, ax] at e1
          rw [az c2', az c3'] at e2
          have r1 := ajL x0 n L y (by omega) o.2.2.1 (by omega)
          have r2 := afo n L (by omega) o.1 o.2.2.1 (by omega)
          have hc : (bif decide (o.2.1 = (1 : Int)) then some true else some (decide (o.2.1 = (4 : Int))) : ah Bool) = some true := by
            by_cases h : o.2.1 = 1
            · rw [ak h]; rfl
            · rw [az h, ak (show o.2.1 = 4 from by omega)]; rfl
          rw [hc, af, ai] at e2
          have Hl := (lc d4)
          obtain ⟨k1, k2, k3, k4⟩ := Q0 o.2.2.1 L true h.web Hl.1
          obtain ⟨g1, g2, g3⟩ := tail (o.2.2.1.foldl jr (((n : Int), L), true)).1.2 (o.2.2.1.foldl jr (((n : Int), L), true)).2 [] (Option.bind (rf ((x0, (n : Int), L, y), o.2.2.1)) fun r10 => some (r10.2, (o.1, r10.1, [], []))) (some ((o.2.2.1.foldl jr (((n : Int), L), true)).1, (o.1, (o.2.2.1.foldl jr (((n : Int), L), true)).2, [], [])))
            (by rw [r1, af, k1]) (by congr 2; exact Prod.ext k1 rfl) k2 e0
          refine ⟨_, _, e1.trans g1, e2.trans ((congrArg (fun q => Option.bind q _) r2).trans g2), g3, rfl, rfl, fun _ => ⟨k3, fun hz => k4 (GJ Hl.2.1) hz, rfl, fun e he => ?_⟩, fun hc => by omega, fun hc => by omega⟩
          show (o.2.2.1.foldl jr (((n : Int), L), true)).2 = _
          rw [he]
          show (jr (((n : Int), L), true) e).2 = _
          unfold jr
          by_cases bn : e ∈ gE L
          · rw [ak bn]
            simp only [auG h.web bn, Bool.and_false, bB]
          · rw [az bn]
            simp only [(ajU h.web (Hl.1 e (by rw [he]; exact cK.2 rfl)) bn).2.1, wF, gW]
theorem azS {n:Nat} (h1:1<=n) (h2:n<=12):WOk n []:=
 ⟨by
  unfold jT
  rw [aV.2 (by omega),dY]
  unfold mg
  rw [if_pos (fun i hi=>absurd hi (by simp [gE]))]
  rfl,fun x hx=>(by cases hx),fun e he=>(by cases he),fun x hx=>(by cases hx),fun k _ _ e he=>(by cases he)⟩
theorem aBI {n:Nat} {x0:Int} (h0:1<=x0/\x0<=3) (h1:1<=n) (h2:n<=12):ShR x0 n [] (0,false,[],[]):=⟨h0,azS h1 h2,.inl rfl⟩
theorem auH (l:aa Sd) (x:Sd) (k:Int):sA (l++[x]) k=if 0<=sA l k then sA l k else if x.1=k then (l.length:Int) else -1:=by
 unfold sA;rw [List.findIdx_append,dP];by_cases h:l.findIdx (fun y=>decide (y.1=k))<l.length
 ·have h':l.findIdx (fun y=>decide (y.1=k))<l.length+[x].length:=by omega
  simp only [if_pos h,if_pos h'];rw [if_pos (by omega)]
 ·simp only [if_neg h];rw [if_neg (show ¬(0:Int)<=-1 from by decide)];by_cases hx:x.1=k
  ·have h0:[x].findIdx (fun y=>decide (y.1=k))=0:=by simp [List.findIdx_cons,hx]
   rw [h0,if_pos hx,if_pos (by simp only [bF,bQ];omega)];omega
  ·have h0:[x].findIdx (fun y=>decide (y.1=k))=1:=by simp [List.findIdx_cons,hx]
   rw [h0,if_neg hx,if_neg (by simp only [bF,bQ];omega)]
theorem an5 {l:aa Sd} {i op a b v:Int} (h:yH l) (hi:sA l i<0) (hv:1<=v/\v<=3):yH (l++[(i,i,op,a,b,v)]):=by
 intro j hj;rw [dP] at hj;simp only [bF,bQ] at hj;unfold p4 p4c;by_cases uE:j<l.length
 ·have h1:=h j uE;unfold p4 p4c at h1;have hg:(l++[(i,i,op,a,b,v)]).getD j (0,0,0,0,0,0)=l.getD j (0,0,0,0,0,0):=by
   rw [dw,dw,rE uE]
  rw [hg];simp only [aU,decide_eq_true_eq] at h1 ⊢;refine ⟨h1.1,h1.2.1,?_⟩;rw [auH,if_pos (by omega)];exact h1.2.2
 ·have aFU:j=l.length:=by omega
  subst aFU;have hg:(l++[(i,i,op,a,b,v)]).getD l.length (0,0,0,0,0,0)=(i,i,op,a,b,v):=by
   rw [dw,uT (eX _),Nat.sub_self];rfl
  rw [hg];simp only [aU,decide_eq_true_eq];refine ⟨trivial,aV.2 hv,?_⟩;rw [auH,if_neg (by omega),if_pos rfl]
theorem Fp {α:Type} (l:aa α) (i j:Nat) (x d:α) (hi:i<l.length):(l.set i x).getD j d=if j=i then x else l.getD j d:=by
 rw [dw,dw,Cg];by_cases h:i=j
 ·subst h;rw [if_pos rfl,if_pos hi,if_pos rfl];rfl
 ·rw [if_neg h,if_neg (fun h'=>h h'.symm)]
abbrev Bn:=List aC × An
structure Ply (n:Nat) (own:List Int) (cuts:List Ed) (lab:List (List Int)) (nums:List Int) (said:List Sd) (ss:List Bn) (g:List Ed) (c:Nat):Prop where
 n2:2<=n/\n<=12
 k:1<=ss.length/\ss.length<=3/\lab.length=ss.length/\nums.length=ss.length
 owr:own.length=n/\∀v:Int,0<=v/\v<n->1<=own.getD v.toNat 0/\own.getD v.toNat 0<=ss.length
 cgr:GrOk n cuts
 cut:∀e,e∈cuts->own.getD e.1.toNat 0≠own.getD e.2.toNat 0
 sh:∀(j:Nat) (L:List aC) (y:An),ss[j]?=some (L,y)->ShR ((j:Int)+1) n L y/\nums.getD j 0=y.1/\y.1<=c/\lab.getD j []=labs n (gE L)/\∀e,e∈gE L->own.getD e.1.toNat 0=(j:Int)+1/\own.getD e.2.toNat 0=(j:Int)+1
 gr:GrOk n g
 gin:∀e,e∈g↔e∈cuts\/∃(j:Nat) (L:List aC) (y:An),ss[j]?=some (L,y)/\e∈gE L
 sdo:yH said/\said.length<=c
section
variable {n:Nat} {own:aa Int} {cuts:aa Ed} {lab:aa (aa Int)} {nums:aa Int} {said:aa Sd} {ss:aa Bn} {g:aa Ed} {c:Nat}
theorem Ply.at (h:Ply n own cuts lab nums said ss g c) {s:Int} (h1:1<=s/\s<=ss.length):∃L y,ss[(s-1).toNat]?=some (L,y):=by
 have hl:(s-1).toNat<ss.length:=by omega
 exact ⟨_,_,aR hl⟩
theorem Sr {x0:Int} {L:aa aC} {y:An} (h:ShR x0 n L y):oN n (gE L):=fun e he=>by
 have:=fK ((jY h.web.gr).1 e he)
 exact ⟨this.1,this.2.1,this.2.2.1,this.2.2.2.1⟩
theorem Ply.hd (h:Ply n own cuts lab nums said ss g c) (hc:c<=80) {t:Bool} (ht:t=true):uB n own cuts lab nums said t=true:=by
 obtain ⟨k1,k2,k3,k4⟩:=h.k;have hn:=h.n2;unfold uB;rw [decide_eq_true_eq];refine ⟨⟨aV.2 (by omega),aV.2 (by omega),by omega⟩,fun i hi => ?_,⟨by rw [h.owr.1],QM h.cgr (QY h.cgr)⟩,fun i hi => ?_,fun i hi => ?_,⟨h.sdo.1,by have:=h.sdo.2;omega⟩,ht⟩
 ·have hl:i<ss.length:=by omega
  obtain ⟨s1,s2,s3,s4,_⟩:=h.sh i _ _ (aR hl);have h0:=s1.len.2.2.2.1;unfold p3;rw [s4,s2,an4 (Sr s1),aV.2 (by omega)];rfl
 ·rw [h.owr.1] at hi;have:=h.owr.2 (i:Int) (by omega);rw [il] at this;unfold p1;exact aV.2 (by omega)
 ·unfold p2;have e:cuts.getD i (0,0)=cuts[i]:=by rw [dw,aR hi];rfl
  rw [e,az (h.cut _ (nH hi))];rfl
theorem Ply.one (h:Ply n own cuts lab nums said ss g c) {e:Ed} {s:Int} (h1:own.getD e.1.toNat 0=s) (h2:own.getD e.2.toNat 0=s) {L:aa aC} {y:An} (hs:ss[(s-1).toNat]?=some (L,y)) (s1:1<=s):e∈g↔e∈gE L:=by
 rw [h.gin];constructor
 ·rintro (hc|⟨j,L',y',hj,he⟩)
  ·exact absurd (h1.trans h2.symm) (h.cut e hc)
  ·have:=(h.sh j L' y' hj).2.2.2.2 e he;have tV:j=(s-1).toNat:=by omega
   subst tV;rw [hs] at hj;cases hj;exact he
 ·intro he;exact .inr ⟨_,_,_,hs,he⟩
theorem Ply.two (h:Ply n own cuts lab nums said ss g c) {e:Ed} (h1:own.getD e.1.toNat 0≠own.getD e.2.toNat 0):e∈g↔e∈cuts:=by
 rw [h.gin];constructor
 ·rintro (hc|⟨j,L',y',hj,he⟩)
  ·exact hc
  ·have:=(h.sh j L' y' hj).2.2.2.2 e he;exact absurd (this.1.trans this.2.symm) h1
 ·exact .inl
theorem Ply.onw (h:Ply n own cuts lab nums said ss g c) {said':aa Sd} (hs:yH said'/\said'.length<=c+1):Ply n own cuts lab nums said' ss g (c+1):=
 ⟨h.n2,h.k,h.owr,h.cgr,h.cut,fun j L y hj=>by
  obtain ⟨s1,s2,s3,s4,s5⟩:=h.sh j L y hj
  exact ⟨s1,s2,by omega,s4,s5⟩,h.gr,h.gin,hs⟩
theorem Ply.upd (h:Ply n own cuts lab nums said ss g c) {s:Int} (mY:1<=s) {L L':aa aC} {y z:An} (hs:ss[(s-1).toNat]?=some (L,y)) (hR:ShR s n L' z) (hz:z.1=y.1+1) (hl:z.2.2.2=labs n (gE L'))
  {own':aa Int} (ho:own'.length=n/\∀v:Int,0<=v/\v<n->1<=own'.getD v.toNat 0/\own'.getD v.toNat 0<=ss.length) {cuts':aa Ed} (hc:GrOk n cuts') (aFV:∀e,e∈cuts'->own'.getD e.1.toNat 0≠own'.getD e.2.toNat 0)
  (hL:∀e,e∈gE L'->own'.getD e.1.toNat 0=s/\own'.getD e.2.toNat 0=s)
  (Xw:∀(j:Nat) (M:aa aC) (w:An),j≠(s-1).toNat->ss[j]?=some (M,w)->∀e,e∈gE M->own'.getD e.1.toNat 0=(j:Int)+1/\own'.getD e.2.toNat 0=(j:Int)+1)
  {g':aa Ed} (gZ:GrOk n g') (hg:∀e,e∈g'↔e∈cuts'\/e∈gE L'\/∃(j:Nat) (M:aa aC) (w:An),j≠(s-1).toNat/\ss[j]?=some (M,w)/\e∈gE M)
  {said':aa Sd} (tX:yH said'/\said'.length<=c+1) :
  Ply n own' cuts' (lab.set (s-1).toNat z.2.2.2) (nums.set (s-1).toNat z.1) said' (ss.set (s-1).toNat (L',z)) g' (c+1):=by
 obtain ⟨k1,k2,k3,k4⟩:=h.k;have bR:=(aZ hs).1;refine ⟨h.n2,by simp only [lL];omega,by rw [lL];exact ho,hc,aFV,fun j M w hj => ?_,gZ,fun e => ?_,tX⟩
 ·rw [Cg] at hj;by_cases tV:(s-1).toNat=j
  ·subst tV;rw [if_pos rfl,if_pos bR] at hj;cases hj;have he:(((s-1).toNat:Nat):Int)+1=s:=by omega
   rw [he,Fp _ _ _ _ _ (by omega),Fp _ _ _ _ _ (by omega),if_pos rfl,if_pos rfl];have:=(h.sh _ _ _ hs).2.2.1;exact ⟨hR,rfl,by omega,hl,hL⟩
  ·rw [if_neg tV] at hj;rw [Fp _ _ _ _ _ (by omega),Fp _ _ _ _ _ (by omega),if_neg (fun h=>tV h.symm),if_neg (fun h=>tV h.symm)];obtain ⟨s1,s2,s3,s4,s5⟩:=h.sh j M w hj;exact ⟨s1,s2,by omega,s4,Xw j M w (fun h=>tV h.symm) hj⟩
 ·rw [hg];constructor
  ·rintro (h1|h1|⟨j,M,w,hj,hm,he⟩)
   ·exact .inl h1
   ·exact .inr ⟨(s-1).toNat,L',z,by rw [Cg,if_pos rfl,if_pos bR],h1⟩
   ·exact .inr ⟨j,M,w,by rw [Cg,if_neg (fun h=>hj h.symm)];exact hm,he⟩
  ·rintro (h1|⟨j,M,w,hj,he⟩)
   ·exact .inl h1
   ·rw [Cg] at hj;by_cases tV:(s-1).toNat=j
    ·rw [if_pos tV,if_pos bR] at hj;cases hj;exact .inr (.inl he)
    ·rw [if_neg tV] at hj;exact .inr (.inr ⟨j,M,w,fun h=>tV h.symm,hj,he⟩)
end
inductive Pnd (n:Nat) (own:List Int) (cuts:List Ed) (lab:List (List Int)) (nums:List Int) (said:List Sd) (ss:List Bn) (g:List Ed) (c:Nat):Int->Int->Int->Int->Int->Int->Int->List Ed->Int->Prop
 | idle (h:Ply n own cuts lab nums said ss g c):Pnd n own cuts lab nums said ss g c 0 0 0 0 0 0 0 [] 0
 | chg {i op a b:Int} (h:Ply n own cuts lab nums said ss g c) (hi:aW i 1 100000=true) (hs:sA said i<0) (ho:op=1\/op=2) (ha:0<=a/\a<n) (hb:0<=b/\b<n) (d9:a≠b) (hw:own.getD a.toNat 0=own.getD b.toNat 0) :
   Pnd n own cuts lab nums said ss g c i op a b (own.getD a.toNat 0) (nums.getD (own.getD a.toNat 0-1).toNat 0+1) op [gF a b] 0
 | rel {i a b:Int} (h:Ply n own cuts lab nums said ss g c) (hi:aW i 1 100000=true) (hs:sA said i<0) (ha:0<=a/\a<n) (hb:1<=b/\b<=ss.length) (hw:own.getD a.toNat 0≠b) :
   Pnd n own cuts lab nums said ss g c i 4 a b (own.getD a.toNat 0) (nums.getD (own.getD a.toNat 0-1).toNat 0+1) 3 [] a
 | acc {i a b:Int} {es g':List Ed} (h:Ply n own cuts lab nums said ss g' c) (hi:aW i 1 100000=true) (hs:sA said i<0) (ha:0<=a/\a<n) (hb:1<=b/\b<=ss.length) (qo:GrOk n es/\es≠[]) (bn:∀e,e∈es->own.getD e.1.toNat 0=b/\own.getD e.2.toNat 0=b/\e∉g') (gZ:GrOk n g) (hg:∀e,e∈g↔e∈g'\/e∈es) :
   Pnd n own cuts lab nums said ss g c i 4 a b b (nums.getD (b-1).toNat 0+1) 4 es 0
section
variable {n:Nat} {own:aa Int} {cuts:aa Ed} {lab:aa (aa Int)} {nums:aa Int} {said:aa Sd} {ss:aa Bn} {g:aa Ed} {c:Nat} {x5 x6 x7 x8 x9 x10 x11:Int} {x12:aa Ed} {x13:Int}
theorem Pnd.ply (h:Pnd n own cuts lab nums said ss g c x5 x6 x7 x8 x9 x10 x11 x12 x13):∃g',Ply n own cuts lab nums said ss g' c:=by
 cases h with
 | idle h=>exact ⟨_,h⟩
 | chg h=>exact ⟨_,h⟩
 | rel h=>exact ⟨_,h⟩
 | acc h=>exact ⟨_,h⟩
theorem ajW {o:Be} (hn:2<=n/\n<=12) (h1:1<=o.1/\o.1<=100000) (h2:(o.2.1=1\/o.2.1=2)/\o.2.2.1.length=1/\o.2.2.2=0\/o.2.1=3/\o.2.2.1=[]/\(0<=o.2.2.2/\o.2.2.2<n)\/o.2.1=4/\o.2.2.1≠[]/\o.2.2.2=0) (hg:GrOk n o.2.2.1):pV n o=true:=by
 unfold pV;rw [aV.2 (by omega),aV.2 h1,aV.2 (by omega),QM hg (QY hg)];rcases h2 with ⟨h2,h3,h4⟩|⟨h2,h3,h4⟩|⟨h2,h3,h4⟩
 ·rw [if_neg (by omega),if_neg (by omega),ak h3,ak h4];rfl
 ·rw [if_pos h2,ak (by rw [h3];rfl),aV.2 (by omega)];rfl
 ·rw [if_neg (by omega),if_pos h2,ak (List.length_pos_iff.2 h3),ak h4];rfl
theorem Q3 {a b:Int} (hn:2<=n/\n<=12) (ha:0<=a/\a<n) (hb:0<=b/\b<n) (d9:a≠b):eF n (gF a b)=true:=by
 unfold gF eF;split
 ·rw [aV.2 (by omega),aV.2 (by simp only;omega),aV.2 (by simp only;omega),ak (by assumption)];rfl
 ·rw [aV.2 (by omega),aV.2 (by simp only;omega),aV.2 (by simp only;omega),ak (by simp only;omega)];rfl
theorem aBJ {e:Ed} (hn:2<=n/\n<=12) (he:eF n e=true):GrOk n [e]:=
 ⟨by omega,by omega,List.pairwise_singleton _ _,fun x hx=>by rw [cK.1 hx];exact he⟩
theorem ajX (hn:2<=n/\n<=12):GrOk n []:=⟨by omega,by omega,List.Pairwise.nil,fun x hx=>by cases hx⟩
theorem Pnd.ord (h:Pnd n own cuts lab nums said ss g c x5 x6 x7 x8 x9 x10 x11 x12 x13) (h9:x9≠0) (hc:c<=80) :
  (1<=x9/\x9<=ss.length)/\∃L y,ss[(x9-1).toNat]?=some (L,y)/\pV n (x10,x11,x12,x13)=true/\x10=y.1+1/\x10=nums.getD (x9-1).toNat 0+1:=by
 have num:∀{g'} (hP:Ply n own cuts lab nums said ss g' c) {s:Int},1<=s/\s<=ss.length->∃L y,ss[(s-1).toNat]?=some (L,y)/\nums.getD (s-1).toNat 0=y.1/\0<=y.1/\y.1<=c:=by
  intro g' hP s hs;obtain ⟨L,y,hy⟩:=hP.at hs;obtain ⟨s1,s2,s3,_⟩:=hP.sh _ _ _ hy;exact ⟨L,y,hy,s2,s1.len.2.2.2.1,s3⟩
 cases h with
 | idle h=>exact absurd rfl h9
 | chg h hi hs ho ha hb d9 hw=>
  have hr:=h.owr.2 _ ha;obtain ⟨L,y,hy,y1,y2,y3⟩:=num h hr;exact ⟨hr,L,y,hy,ajW h.n2 (by simp only;omega) (.inl ⟨ho,rfl,rfl⟩) (aBJ h.n2 (Q3 h.n2 ha hb d9)),by omega,rfl⟩
 | rel h hi hs ha hb hw=>
  have hr:=h.owr.2 _ ha;obtain ⟨L,y,hy,y1,y2,y3⟩:=num h hr;exact ⟨hr,L,y,hy,ajW h.n2 (by simp only;omega) (.inr (.inl ⟨rfl,rfl,ha⟩)) (ajX h.n2),by omega,rfl⟩
 | acc h hi hs ha hb qo bn gZ hg=>
  obtain ⟨L,y,hy,y1,y2,y3⟩:=num h hb;exact ⟨hb,L,y,hy,ajW h.n2 (by simp only;omega) (.inr (.inr ⟨rfl,qo.2,rfl⟩)) qo.1,by omega,rfl⟩
theorem aq0 {k:Nat} {op a b:Int} (h:(op=1\/op=2)/\(0<=a/\a<n)/\(0<=b/\b<n)/\a≠b\/op=4/\(0<=a/\a<n)/\(1<=b/\b<=k)):wm n k op a b=true:=by
 unfold wm;rcases h with ⟨h1,h2,h3,h4⟩|⟨h1,h2,h3⟩
 ·rw [aV.2 (by omega),aV.2 (by omega),az (by omega),ax,aV.2 (by omega),az h4];rfl
 ·rw [aV.2 (by omega),aV.2 (by omega),ak h1,ai,aV.2 (by omega)];rfl
theorem Pnd.tk (h:Pnd n own cuts lab nums said ss g c x5 x6 x7 x8 x9 x10 x11 x12 x13) (hc:c<=80):su n lab.length nums said x5 x6 x7 x8 x9 (x10,x11,x12,x13)=true:=by
 unfold su;by_cases h9:x9=0
 ·have:tB x5 x6 x7 x8 x9 (x10,x11,x12,x13)=true:=by
   have hr:∀{g'} (hP:Ply n own cuts lab nums said ss g' c) {a:Int},0<=a/\a<n->own.getD a.toNat 0≠0:=by
    intro g' hP a ha;have:=hP.owr.2 a ha;omega
   cases h with
   | idle h=>rfl
   | chg h hi hs ho ha hb d9 hw=>exact absurd h9 (hr h ha)
   | rel h hi hs ha hb hw=>exact absurd h9 (hr h ha)
   | acc h hi hs ha hb qo bn gZ hg=>omega
  rw [this];rfl
 ·obtain ⟨h1,L,y,h2,h3,h4,h5⟩:=h.ord h9 hc;obtain ⟨g',hP⟩:=h.ply;have hk:=hP.k;have hy:=(hP.sh _ _ _ h2).1.len;have ags:(aW x5 1 100000&&(!decide (x6=3)&&wm n lab.length x6 x7 x8))=true/\sA said x5<0:=by
   cases h with
   | idle h=>exact absurd rfl h9
   | chg h hi hs ho ha hb d9 hw=>
    rw [hi,az (by omega),aq0 (.inl ⟨ho,ha,hb,d9⟩)];exact ⟨rfl,hs⟩
   | rel h hi hs ha hb hw=>
    rw [hi,aq0 (.inr ⟨rfl,ha,by omega⟩)];exact ⟨rfl,hs⟩
   | acc h hi hs ha hb qo bn gZ hg=>
    rw [hi,aq0 (.inr ⟨rfl,ha,by omega⟩)];exact ⟨rfl,hs⟩
  rw [ags.1,aV.2 (show 1<=x9/\x9<=(lab.length:Int) from by omega),h3,wr (n:=nums.getD (x9-1).toNat 0+1) (by omega) (by omega),ak (show (x10,x11,x12,x13).1=nums.getD (x9-1).toNat 0+1 from h5),ak ags.2];simp
theorem Pnd.hd (h:Pnd n own cuts lab nums said ss g c x5 x6 x7 x8 x9 x10 x11 x12 x13) (hc:c<=80):uB n own cuts lab nums said (su n lab.length nums said x5 x6 x7 x8 x9 (x10,x11,x12,x13))=true:=by
 obtain ⟨g',hP⟩:=h.ply;exact hP.hd hc (h.tk hc)
end
section
variable {n:Nat} {g:aa Ed} (hg:GrOk n g)
include hg
theorem Ms {op a b:Int} (h:op=1\/op=2) (ha:0<=a/\a<n) (hb:0<=b/\b<n) (d9:a≠b) :
  yG n g op a b=(let r:=if op=2 then aqI n g (gF a b) else Mj n g (gF a b);if r.2.2 then (r.1,r.2.1,1) else ((n:Int),g,2)):=by
 unfold yG;rw [aV.2 (by omega),ak ha.1,ak ha.2,ak hb.1,ak hb.2,az d9];simp only [wF,if_true,Bool.false_and,gW];rw [if_neg (by omega),if_neg (by omega)]
theorem acI {a b:Int} (ha:0<=a/\a<n) (hb:0<=b/\b<n) (d9:a≠b) (he:gF a b∉g):yG n g 1 a b=((n:Int),ins g (gF a b),1)/\yG n g 2 a b=((n:Int),g,2):=by
 have hn:2<=n/\n<=12:=by have:=hg.1;have:=hg.2.1;omega
 rw [Ms hg (.inl rfl) ha hb d9,Ms hg (.inr rfl) ha hb d9];unfold aqI Mj;rw [abf hg,Q3 hn ha hb d9,az he];exact ⟨rfl,rfl⟩
theorem acJ {a b:Int} (ha:0<=a/\a<n) (hb:0<=b/\b<n) (d9:a≠b) (he:gF a b∈g):yG n g 1 a b=((n:Int),g,2)/\yG n g 2 a b=((n:Int),del g (gF a b),1):=by
 have hn:2<=n/\n<=12:=by have:=hg.1;have:=hg.2.1;omega
 rw [Ms hg (.inl rfl) ha hb d9,Ms hg (.inr rfl) ha hb d9];unfold aqI Mj;rw [abf hg,Q3 hn ha hb d9,ak he];exact ⟨rfl,rfl⟩
omit hg in
theorem Xl {a b:Int} (ha:0<=a/\a<n):yG n g 4 a b=((n:Int),g,if aW b 1 3=true then 1 else 3):=by
 unfold yG;rw [aV.2 (by omega),ak ha.1,ak ha.2];rfl
theorem azT {a b:Int} (ha:0<=a/\a<n) (hb:0<=b/\b<n):yG n g 3 a b=((n:Int),g,if (labs n g).getD a.toNat 0=(labs n g).getD b.toNat 0 then 1 else 2):=by
 unfold yG;rw [aV.2 (by omega),ak ha.1,ak ha.2,ak hb.1,ak hb.2];simp only [wF,if_true,decide_true,bB,Bool.and_false,gW];rw [if_neg (by omega)];unfold tgB;rw [abf hg,aV.2 (by omega),aV.2 (by omega),il];simp only [dY,decide_eq_true_eq]
omit hg in
theorem azU {k:Nat} (hk:k<=3) {op a b:Int} (h:wm n k op a b=false):(yG n g op a b).2.1=g/\((yG n g op a b).2.2=3\/op=4/\(yG n g op a b).2.2=1):=by
 unfold wm at h;unfold yG;by_cases h1:aW op 1 4=true
 ·rw [h1] at h ⊢;by_cases h2:0<=a/\a<n
  ·rw [aV.2 (show 0<=a/\a<=(n:Int)-1 from by omega)] at h;rw [ak h2.1,ak h2.2];simp only [wF,if_true,dY] at h ⊢;by_cases h4:op=4
   ·rw [if_pos h4];refine ⟨rfl,?_⟩;by_cases h5:aW b 1 3=true
    ·exact .inr ⟨h4,by rw [if_pos h5]⟩
    ·exact .inl (by rw [if_neg h5])
   ·rw [az h4,ax] at h;rw [if_neg h4,if_neg]
    ·exact ⟨rfl,.inl rfl⟩
    ·intro hc;simp only [aU,decide_eq_true_eq,sK,Bool.and_eq_false_iff,decide_eq_false_iff_not,Bool.not_eq_false'] at hc;rw [aV.2 (show 0<=b/\b<=(n:Int)-1 from by omega)] at h;simp only [dY,Bool.not_eq_false',aU,decide_eq_true_eq,iT] at h;rcases hc.2 with h6|h6
     ·exact h6 h.1
     ·omega
  ·rw [if_neg]
   ·exact ⟨rfl,.inl rfl⟩
   ·simp only [aU,decide_eq_true_eq];exact fun hc=>h2 hc.2
 ·rw [if_neg]
  ·exact ⟨rfl,.inl rfl⟩
  ·simp only [aU];exact fun hc=>h1 hc.1
end
def Rpl (n:Nat) (g:aa Ed) (op a b v:Int) (g':aa Ed):Prop:=
 g'=(if v=3 then g else (yG n g op a b).2.1)/\(1<=v/\v<=3)/\(v=(yG n g op a b).2.2\/op=4/\(v=2\/((yG n g op a b).2.2=1/\v=3)))
theorem an6 (a b:Int):(gF a b=(a,b))\/(gF a b=(b,a)):=by
 unfold gF;split
 ·exact .inl rfl
 ·exact .inr rfl
section
variable {n:Nat} {own:aa Int} {cuts:aa Ed} {lab:aa (aa Int)} {nums:aa Int} {said:aa Sd} {ss:aa Bn} {g:aa Ed} {c:Nat}
theorem Ply.split (h:Ply n own cuts lab nums said ss g c) {j0:Nat} {L:aa aC} {y:An} (hs:ss[j0]?=some (L,y)) (x:Ed):x∈g↔x∈cuts\/x∈gE L\/∃(j:Nat) (M:aa aC) (w:An),j≠j0/\ss[j]?=some (M,w)/\x∈gE M:=by
 rw [h.gin];constructor
 ·rintro (h1|⟨j,M,w,hj,he⟩)
  ·exact .inl h1
  ·by_cases hjj:j=j0
   ·subst hjj;rw [hs] at hj;cases hj;exact .inr (.inl he)
   ·exact .inr (.inr ⟨j,M,w,hjj,hj,he⟩)
 ·rintro (h1|h1|⟨j,M,w,_,hj,he⟩)
  ·exact .inl h1
  ·exact .inr ⟨j0,L,y,hs,h1⟩
  ·exact .inr ⟨j,M,w,hj,he⟩
theorem Ply.whole (h:Ply n own cuts lab nums said ss g c):(B_ n lab cuts).1=labs n g:=by
 obtain ⟨k1,k2,k3,k4⟩:=h.k;have hn:=h.n2;have aks:∀l,l∈lab->∃(j:Nat) (L:aa aC) (y:An),ss[j]?=some (L,y)/\l=labs n (gE L)/\ShR ((j:Int)+1) n L y:=by
  intro l hl;obtain ⟨j,hj,rfl⟩:=FI.1 hl;have tV:j<ss.length:=by omega
  obtain ⟨s1,_,_,s4,_⟩:=h.sh j _ _ (aR tV);refine ⟨j,_,_,aR tV,?_,s1⟩;rw [<-s4,dw,aR hj];rfl
 have Fq:lab.all (pL n)=true:=by
  rw [bW];intro l hl;obtain ⟨j,L,y,h1,h2,h3⟩:=aks l hl;rw [h2];exact azH (Sr h3)
 have agq:cuts.all (eF n)=true:=by
  rw [bW];exact h.cgr.2.2.2
 unfold B_;rw [if_pos]
 ·show labs (n:Int).toNat _=_;rw [il];have acO:oN n g:=fun e he=>by
   have:=fK (h.gr.2.2.2 e he);exact ⟨this.1,this.2.1,this.2.2.1,this.2.2.2.1⟩
  have hEV:oN n (lab.flatMap BZ++cuts):=fun e he=>by
   rcases bG.1 he with he|he
   ·obtain ⟨l,hl,he⟩:=Ch.1 he;obtain ⟨j,L,y,h1,h2,h3⟩:=aks l hl;subst h2;obtain ⟨w,g1,g2⟩:=auk he;have t1:=(kZ (Sr h3)).lt g1;have t2:=(aZ g1).1;rw [dU] at t2;omega
   ·exact acO e ((h.gin e).2 (.inl he))
  refine (kZ hEV).uniq (kZ acO) fun u v => ?_
  constructor
  ·refine fun hc=>hc.sub fun e he => ?_
   rcases bG.1 he with he|he
   ·obtain ⟨l,hl,he⟩:=Ch.1 he;obtain ⟨j,L,y,h1,h2,h3⟩:=aks l hl;subst h2;obtain ⟨w,g1,g2⟩:=auk he;have:=((kZ (Sr h3)).2 w _ g1).1;rw [g2];exact (this.mono fun x hx=>(h.gin x).2 (.inr ⟨j,L,y,h1,hx⟩)).symm
   ·exact .of ((h.gin e).2 (.inl he))
  ·refine fun hc=>hc.sub fun e he => ?_
   rcases (h.gin e).1 he with he|⟨j,L,y,hj,he⟩
   ·exact .of (jD _ he)
   ·obtain ⟨s1,_,_,s4,_⟩:=h.sh j L y hj;have uE:j<lab.length:=by
     have:=(aZ hj).1;omega
    have hl:labs n (gE L)∈lab:=by
     rw [<-s4,dw,aR uE];exact nH uE
    have bn:∀x,x∈BZ (labs n (gE L))->x∈lab.flatMap BZ++cuts:=fun x hx=>jl _ (Ch.2 ⟨_,hl,hx⟩)
    have hL:=kZ (Sr s1);obtain ⟨a1,a2,a3,a4⟩:=Sr s1 e he;have i1:e.1.toNat<(labs n (gE L)).length:=by rw [dU];omega
    have i2:e.2.toNat<(labs n (gE L)).length:=by rw [dU];omega
    have g1:=getD_at i1;have g2:=getD_at i2;have hxy:=(hL.iff g1 g2).2 (by rw [jF a1,jF a3];exact Con.of he);have m1:=bn _ (auj g1);have m2:=bn _ (auj g2);rw [jF a1] at m1;rw [jF a3,<-hxy] at m2;exact (Con.of m1).symm.trans (Con.of m2)
 ·unfold wlB;rw [aV.2 (by omega),ak (by omega),Fq,agq];rfl
theorem auJ (h:Ply n own cuts lab nums said ss g c) {i op a b:Int} (hi:aW i 1 100000=true) (hs:sA said i<0) :
  ∃(cuts':aa Ed) (x5 x6 x7 x8 x9 x10 x11:Int) (x12:aa Ed) (x13:Int) (said':aa Sd) (told:Int) (g':aa Ed),Vt n own cuts lab nums said i op a b=((n:Int),own,cuts',lab,nums,x5,x6,x7,x8,x9,x10,x11,x12,x13,said',told)/\Pnd n own cuts' lab nums said' ss g' (c+1) x5 x6 x7 x8 x9 x10 x11 x12 x13 /\
   ((told=1/\x9=0/\∃v,said'=said++[(i,i,op,a,b,v)]/\Rpl n g op a b v g')\/(told=2/\x9≠0/\said'=said/\g'=g/\x5=i/\x6=op/\x7=a/\x8=b)):=by
 obtain ⟨k1,k2,k3,k4⟩:=h.k;have hn:=h.n2;have tX:∀v:Int,1<=v/\v<=3->yH (said++[(i,i,op,a,b,v)])/\(said++[(i,i,op,a,b,v)]).length<=c+1:=fun v hv=>⟨an5 h.sdo.1 hs hv,by
  have:=h.sdo.2
  simp only [dP,bF,bQ]
  omega⟩
 have ayC:=h.onw (said':=said) ⟨h.sdo.1,by have:=h.sdo.2;omega⟩;unfold Vt;by_cases hr:wm n lab.length op a b=false
 ·rw [if_pos hr];obtain ⟨m1,m2⟩:=azU (g:=g) (show lab.length<=3 by omega) hr;refine ⟨_,_,_,_,_,_,_,_,_,_,_,_,g,rfl,.idle (h.onw (tX 3 (by omega))),.inl ⟨rfl,rfl,3,rfl,by rw [if_pos rfl],by omega,?_⟩⟩;rcases m2 with m2|m2
  ·exact .inl m2.symm
  ·exact .inr ⟨m2.1,.inr ⟨m2.2,rfl⟩⟩
 ·rw [if_neg hr];rw [Bool.not_eq_false] at hr;unfold wm at hr;simp only [aU,aV] at hr;obtain ⟨r1,r2,r3⟩:=hr;have ha:0<=a/\a<n:=by omega
  by_cases h3:op=3
  ·rw [if_pos h3,h.whole];subst h3;rw [az (by omega),ax] at r3;simp only [aU,aV] at r3;have hb:0<=b/\b<n:=by omega
   have hm:=azT h.gr ha hb;by_cases hl:(labs n g).getD a.toNat 0=(labs n g).getD b.toNat 0
   ·rw [if_pos hl] at hm ⊢;exact ⟨_,_,_,_,_,_,_,_,_,_,_,_,g,rfl,.idle (h.onw (tX 1 (by omega))),.inl ⟨rfl,rfl,1,rfl,by rw [if_neg (by omega),hm],by omega,.inl (by rw [hm])⟩⟩
   ·rw [if_neg hl] at hm ⊢;exact ⟨_,_,_,_,_,_,_,_,_,_,_,_,g,rfl,.idle (h.onw (tX 2 (by omega))),.inl ⟨rfl,rfl,2,rfl,by rw [if_neg (by omega),hm],by omega,.inl (by rw [hm])⟩⟩
  ·rw [if_neg h3];by_cases h4:op=4
   ·rw [if_pos h4];subst h4;rw [ak rfl,ai,aV] at r3;have hm:=Xl (g:=g) (b:=b) ha;by_cases ho:own.getD a.toNat 0=b
    ·rw [if_pos ho];exact ⟨_,_,_,_,_,_,_,_,_,_,_,_,g,rfl,.idle (h.onw (tX 2 (by omega))),.inl ⟨rfl,rfl,2,rfl,by rw [if_neg (by omega),hm],by omega,.inr ⟨rfl,.inl rfl⟩⟩⟩
    ·rw [if_neg ho];have:=h.owr.2 a ha;exact ⟨_,_,_,_,_,_,_,_,_,_,_,_,g,rfl,.rel ayC hi hs ha (by omega) ho,.inr ⟨rfl,by omega,rfl,rfl,rfl,rfl,rfl,rfl⟩⟩
   ·rw [if_neg h4];rw [az h4,ax] at r3;simp only [aU,aV,sK,Bool.and_eq_false_iff,decide_eq_false_iff_not,zU] at r3;have hb:0<=b/\b<n:=by omega
    have lI:op=1\/op=2:=by omega
    have d9:a≠b:=by
     rcases r3.2 with h|h
     ·exact h
     ·omega
    have hed:=Q3 hn ha hb d9;unfold tkE;have Nw:(own.getD (gF a b).1.toNat 0=own.getD (gF a b).2.toNat 0↔own.getD a.toNat 0=own.getD b.toNat 0)/\(own.getD a.toNat 0=own.getD b.toNat 0->own.getD (gF a b).1.toNat 0=own.getD a.toNat 0):=by
     rcases an6 a b with h|h
     ·rw [h];exact ⟨Iff.rfl,fun _=>rfl⟩
     ·rw [h];exact ⟨⟨fun h=>h.symm,fun h=>h.symm⟩,fun h=>h.symm⟩
    by_cases hw:own.getD (gF a b).1.toNat 0=own.getD (gF a b).2.toNat 0
    ·rw [if_pos hw];have wz:=Nw.1.1 hw;rw [Nw.2 wz];have:=h.owr.2 a ha;have aFW:(if op=2 then (2:Int) else 1)=op:=by
      rcases lI with h|h<;>subst h<;>rfl
     rw [aFW];exact ⟨_,_,_,_,_,_,_,_,_,_,_,_,g,rfl,.chg ayC hi hs lI ha hb d9 wz,.inr ⟨rfl,by omega,rfl,rfl,rfl,rfl,rfl,rfl⟩⟩
    ·rw [if_neg hw];have hcg:=h.two hw;by_cases bn:gF a b∈cuts
     ·have qm:=hcg.2 bn;obtain ⟨m1,m2⟩:=acJ h.gr ha hb d9 qm;rcases lI with rfl|rfl
      ·rw [ak bn,if_pos (by decide)];exact ⟨_,_,_,_,_,_,_,_,_,_,_,_,g,rfl,.idle (h.onw (tX 2 (by omega))),.inl ⟨rfl,rfl,2,rfl,by rw [if_neg (by omega),m1],by omega,.inl (by rw [m1])⟩⟩
      ·rw [ak bn,if_neg (by decide),if_pos bn];refine ⟨_,_,_,_,_,_,_,_,_,_,_,_,del g (gF a b),rfl,.idle ⟨h.n2,h.k,h.owr,h.cgr.del,fun e he=>h.cut e (oO.1 he).1,fun j L y hj => ?_,h.gr.del,fun e => ?_,tX 1 (by omega)⟩,.inl ⟨rfl,rfl,1,rfl,by rw [if_neg (by omega),m2],by omega,.inl (by rw [m2])⟩⟩
       ·obtain ⟨s1,s2,s3,s4,s5⟩:=h.sh j L y hj;exact ⟨s1,s2,by omega,s4,s5⟩
       ·rw [oO,oO,h.gin];constructor
        ·rintro ⟨h1|h1,h2⟩
         ·exact .inl ⟨h1,h2⟩
         ·exact .inr h1
        ·rintro (h1|⟨j,L,y,hj,he⟩)
         ·exact ⟨.inl h1.1,h1.2⟩
         ·refine ⟨.inr ⟨j,L,y,hj,he⟩,?_⟩;rintro rfl;have:=(h.sh j L y hj).2.2.2.2 _ he;exact hw (this.1.trans this.2.symm)
     ·have qm:gF a b∉g:=fun h'=>bn (hcg.1 h')
      obtain ⟨m1,m2⟩:=acI h.gr ha hb d9 qm;rcases lI with rfl|rfl
      ·rw [az bn,if_neg (by decide),if_neg bn];refine ⟨_,_,_,_,_,_,_,_,_,_,_,_,ins g (gF a b),rfl,.idle ⟨h.n2,h.k,h.owr,h.cgr.ins hed,fun e he => ?_,fun j L y hj => ?_,h.gr.ins hed,fun e => ?_,tX 1 (by omega)⟩,.inl ⟨rfl,rfl,1,rfl,by rw [if_neg (by omega),m1],by omega,.inl (by rw [m1])⟩⟩
       ·rcases mG.1 he with rfl|he
        ·exact hw
        ·exact h.cut e he
       ·obtain ⟨s1,s2,s3,s4,s5⟩:=h.sh j L y hj;exact ⟨s1,s2,by omega,s4,s5⟩
       ·rw [mG,mG,h.gin];constructor
        ·rintro (h1|h1|h1)
         ·exact .inl (.inl h1)
         ·exact .inl (.inr h1)
         ·exact .inr h1
        ·rintro ((h1|h1)|h1)
         ·exact .inl h1
         ·exact .inr (.inl h1)
         ·exact .inr (.inr h1)
      ·rw [az bn,if_pos (by decide)];exact ⟨_,_,_,_,_,_,_,_,_,_,_,_,g,rfl,.idle (h.onw (tX 2 (by omega))),.inl ⟨rfl,rfl,2,rfl,by rw [if_neg (by omega),m2],by omega,.inl (by rw [m2])⟩⟩
end
theorem aq1 (a:aa Int) (ha:a.length<=1048576):∃v,KL a=some (v,())/\0<=v/\v<=60:=by
 show ∃v,KJ BIG _=_/\_;rw [apm,az (by omega),ax];have h1:Int.tdiv (a.length:Int) 4=(a.length:Int) / 4:=Int.tdiv_eq_ediv_of_nonneg (by omega);rw [h1,wr (n:=(a.length:Int) / 4) (by omega) (by omega),wr (n:=12+(a.length:Int) / 4) (by omega) (by omega)];by_cases h:(60:Int)<12+(a.length:Int) / 4
 ·rw [ak h];exact ⟨60,rfl,by omega,by omega⟩
 ·rw [az h];exact ⟨_,rfl,by omega,by omega⟩
theorem aq2 (W:Int × aa aC) (h:W.2.length<=1048576):L_ (W,W)=some (true,()):=by
 have hm:maxLen=9223372036854775807:=by decide
 show L9 BIG _=_;rw [aqC,ak (rfl:W.1=W.1),ak (rfl:(W.2.length:Int)=W.2.length)];simp only [bB,ax,af];refine dV (P:=fun o=>o=some (true,())) (fun (j:Int)=>∃i:Nat,j=(i:Int)/\i<=W.2.length) (fun j=>W.2.length-j.toNat) (fun _ b=>b=Sum.inl ()) (by simp only [BIG];omega) ⟨0,rfl,by omega⟩ (fun self s hx hs => ?_) (fun b hb=>by rw [hb]);obtain ⟨i,rfl,hi⟩:=hx;by_cases hl:i<W.2.length
 ·rw [ak (by omega),ai,aF hl,aR hl];simp only [af,aF hl,aR hl,decide_true,beq_self_eq_true,wF,bB,ax];rw [bT (by omega)];exact hs _ ⟨i+1,rfl,by omega⟩ (by omega)
 ·rw [az (by omega),ax];exact ⟨_,rfl,rfl⟩
theorem Vz {x:Ed}:∀(es c:aa Ed),x∈es.foldl ins c↔x∈c\/x∈es
 | [],c=>by simp
 | e::es,c=>by
  rw [gH,Vz es,mG,aY];constructor
  ·rintro ((h|h)|h)
   ·exact .inr (.inl h)
   ·exact .inl h
   ·exact .inr (.inr h)
  ·rintro (h|h|h)
   ·exact .inl (.inr h)
   ·exact .inl (.inl h)
   ·exact .inr h
theorem abg {n:Int}:∀(es c:aa Ed),GrOk n c->(∀e,e∈es->eF n e=true)->GrOk n (es.foldl ins c)
 | [],c,h,_=>h
 | e::es,c,h,he=>abg es (ins c e) (h.ins (he e (dW ..))) fun x hx=>he x (dQ _ hx)
theorem qC {x:Ed}:∀(es c:aa Ed),x∈es.foldl del c↔x∈c/\x∉es
 | [],c=>by simp
 | e::es,c=>by
  rw [gH,qC es,oO,aY];constructor
  ·rintro ⟨⟨h1,h2⟩,h3⟩;exact ⟨h1,fun h=>h.elim h2 h3⟩
  ·rintro ⟨h1,h2⟩;exact ⟨⟨h1,fun h=>h2 (.inl h)⟩,fun h=>h2 (.inr h)⟩
theorem Mt {n:Int}:∀(es c:aa Ed),GrOk n c->GrOk n (es.foldl del c)
 | [],c,h=>h
 | e::es,c,h=>Mt es (del c e) h.del
theorem auK {own:aa Int} {n:Nat} (hl:own.length=n) {b:Int} {x:Ed} (hx:eF n x=true):E5 own b x=true↔own.getD x.1.toNat 0=b/\own.getD x.2.toNat 0=b:=by
 have hr:=fK hx;have g:∀v:Int,0<=v/\v<n->own[v.toNat]?=some (own.getD v.toNat 0):=fun v hv=>by
  have:v.toNat<own.length:=by omega
  rw [dw,aR this];rfl
 unfold E5;rw [g _ ⟨hr.1,hr.2.1⟩,g _ ⟨hr.2.2.1,hr.2.2.2.1⟩,ak hr.1,ak hr.2.2.1,ak (show x.1<own.length by omega),ak (show x.2<own.length by omega)];simp
theorem Dne.labs {n:Nat} {L L':aa aC} {o:Be} {z:An} (h:Dne n L L' o z) {x0:Int} (hR:ShR x0 n L' z):z.2.2.2=Go.Fw.labs n (gE L'):=h.lab.trans hR.web.labs
section
variable {n:Nat} {own:aa Int} {cuts:aa Ed} {lab:aa (aa Int)} {nums:aa Int} {said:aa Sd} {ss:aa Bn} {g:aa Ed} {c:Nat} {x5 x6 x7 x8 x9 x10 x11:Int} {x12:aa Ed} {x13:Int}
theorem Ply.own_at (h:Ply n own cuts lab nums said ss g c) {a b:Int} (ha:0<=a/\a<n) (hb:1<=b/\b<=ss.length) :
  (∀v:Int,0<=v/\v<n->(own.set a.toNat b).getD v.toNat 0=if v=a then b else own.getD v.toNat 0)/\(own.set a.toNat b).length=n/\∀v:Int,0<=v/\v<n->1<=(own.set a.toNat b).getD v.toNat 0/\(own.set a.toNat b).getD v.toNat 0<=ss.length:=by
 have hl:=h.owr.1;have h0:∀v:Int,0<=v/\v<n->(own.set a.toNat b).getD v.toNat 0=if v=a then b else own.getD v.toNat 0:=by
  intro v hv;rw [Fp _ _ _ _ _ (by omega)];by_cases hva:v=a
  ·rw [if_pos (by rw [hva]),if_pos hva]
  ·rw [if_neg (by omega),if_neg hva]
 refine ⟨h0,by rw [lL];exact hl,fun v hv => ?_⟩;rw [h0 v hv];split
 ·exact hb
 ·exact h.owr.2 v hv
theorem auL (h:Pnd n own cuts lab nums said ss g c x5 x6 x7 x8 x9 x10 x11 x12 x13) (h9:x9≠0) (h1:1<=x9) {L L':aa aC} {y z:An} (hs:ss[(x9-1).toNat]?=some (L,y)) (awU:x10=y.1+1) (hR:ShR x9 n L' z) (hD:Dne n L L' (x10,x11,x12,x13) z) :
  ∃(own':aa Int) (cuts':aa Ed) (t5 t6 t7 t8 t9 t10 t11:Int) (t12:aa Ed) (t13:Int) (said':aa Sd) (told:Int) (g':aa Ed),
   QT n own cuts (lab.set (x9-1).toNat z.2.2.2) (nums.set (x9-1).toNat z.1) said x5 x6 x7 x8 x11 z.2.1 z.2.2.1=((n:Int),own',cuts',lab.set (x9-1).toNat z.2.2.2,nums.set (x9-1).toNat z.1,t5,t6,t7,t8,t9,t10,t11,t12,t13,said',told) /\
   Pnd n own' cuts' (lab.set (x9-1).toNat z.2.2.2) (nums.set (x9-1).toNat z.1) said' (ss.set (x9-1).toNat (L',z)) g' (c+1) t5 t6 t7 t8 t9 t10 t11 t12 t13 /\
   ((told=1/\t9=0/\∃v,said'=said++[(x5,x5,x6,x7,x8,v)]/\Rpl n g x6 x7 x8 v g')\/(told=2/\t9≠0/\said'=said/\g'=g/\t5=x5/\t6=x6/\t7=x7/\t8=x8/\x11=3/\t11=4)):=by
 have hz:z.1=y.1+1:=hD.num.trans awU;have hl:=hD.labs hR;have sd:∀{g'} (hP:Ply n own cuts lab nums said ss g' c) (J8:sA said x5<0) (v:Int),1<=v/\v<=3->yH (said++[(x5,x5,x6,x7,x8,v)])/\(said++[(x5,x5,x6,x7,x8,v)]).length<=c+1:=fun hP J8 v hv=>⟨an5 hP.sdo.1 J8 hv,by
  have:=hP.sdo.2
  simp only [dP,bF,bQ]
  omega⟩
 cases h with
 | idle h=>exact absurd rfl h9
 | chg h hi J8 ho ha hb d9 hw=>
  have hn:=h.n2;obtain ⟨hL,hy⟩:=h.sh _ _ _ hs;have uD:(((own.getD x7.toNat 0-1).toNat:Nat):Int)+1=own.getD x7.toNat 0:=by omega
  have hed:=Q3 hn ha hb d9;have Nw:own.getD (gF x7 x8).1.toNat 0=own.getD x7.toNat 0/\own.getD (gF x7 x8).2.toNat 0=own.getD x7.toNat 0:=by
   rcases an6 x7 x8 with h'|h'
   ·rw [h'];exact ⟨rfl,hw.symm⟩
   ·rw [h'];exact ⟨hw.symm,rfl⟩
  have aru:=h.one Nw.1 Nw.2 hs h1;have FF:∀e,e∈gE L->own.getD e.1.toNat 0=own.getD x7.toNat 0/\own.getD e.2.toNat 0=own.getD x7.toNat 0:=fun e he=>by
   have:=hy.2.2.2 e he;rw [uD] at this;exact this
  have Xw:∀(j:Nat) (M:aa aC) (w:An),j≠(own.getD x7.toNat 0-1).toNat->ss[j]?=some (M,w)->∀e,e∈gE M->own.getD e.1.toNat 0=(j:Int)+1/\own.getD e.2.toNat 0=(j:Int)+1:=fun j M w _ hj e he=>(h.sh j M w hj).2.2.2.2 e he
  have aX:∀(j:Nat) (M:aa aC) (w:An),j≠(own.getD x7.toNat 0-1).toNat->ss[j]?=some (M,w)->gF x7 x8∉gE M:=fun j M w hj hm bn=>by
   have:=Xw j M w hj hm _ bn;omega
  have hnc:gF x7 x8∉cuts:=fun bn=>h.cut _ bn (Nw.1.trans Nw.2.symm)
  unfold QT;rw [if_neg (by omega)];rcases ho with rfl|rfl
  ·obtain ⟨d1,_,_,d4⟩:=hD.add (.inl rfl);have d4:=d4 _ rfl;have G_:∀e,e∈gE L'->own.getD e.1.toNat 0=own.getD x7.toNat 0/\own.getD e.2.toNat 0=own.getD x7.toNat 0:=fun e he=>by
    rcases (d1 e).1 he with he|he
    ·exact FF e he
    ·rw [cK.1 he];exact Nw
   by_cases bn:gF x7 x8∈gE L
   ·obtain ⟨m1,_⟩:=acJ h.gr ha hb d9 (aru.2 bn);rw [ak bn] at d4;rw [d4];refine ⟨_,_,_,_,_,_,_,_,_,_,_,_,_,g,rfl,.idle (h.upd h1 hs hR hz hl h.owr h.cgr h.cut G_ Xw h.gr (fun e => ?_) (sd h J8 2 (by omega))),.inl ⟨rfl,rfl,2,rfl,by rw [if_neg (by omega),m1],by omega,.inl (by rw [m1])⟩⟩;rw [h.split hs,d1];constructor
    ·rintro (h|h|h)
     ·exact .inl h
     ·exact .inr (.inl (.inl h))
     ·exact .inr (.inr h)
    ·rintro (h | (h|h)|h)
     ·exact .inl h
     ·exact .inr (.inl h)
     ·rw [cK.1 h];exact .inr (.inl bn)
     ·exact .inr (.inr h)
   ·have qm:gF x7 x8∉g:=fun h'=>bn (aru.1 h')
    obtain ⟨m1,_⟩:=acI h.gr ha hb d9 qm;rw [az bn] at d4;rw [d4];refine ⟨_,_,_,_,_,_,_,_,_,_,_,_,_,ins g (gF x7 x8),rfl,.idle (h.upd h1 hs hR hz hl h.owr h.cgr h.cut G_ Xw (h.gr.ins hed) (fun e => ?_) (sd h J8 1 (by omega))),.inl ⟨rfl,rfl,1,rfl,by rw [if_neg (by omega),m1],by omega,.inl (by rw [m1])⟩⟩;rw [mG,h.split hs,d1];constructor
    ·rintro (h|h|h|h)
     ·exact .inr (.inl (.inr (cK.2 h)))
     ·exact .inl h
     ·exact .inr (.inl (.inl h))
     ·exact .inr (.inr h)
    ·rintro (h | (h|h)|h)
     ·exact .inr (.inl h)
     ·exact .inr (.inr (.inl h))
     ·exact .inl (cK.1 h)
     ·exact .inr (.inr (.inr h))
  ·obtain ⟨e',q1,q2,q3,_⟩:=hD.take rfl;have q0:e'=gF x7 x8:=by
    have:[gF x7 x8]=[e']:=q1;simp only [Rs,and_true] at this;exact this.symm
   subst q0;have G_:∀e,e∈gE L'->own.getD e.1.toNat 0=own.getD x7.toNat 0/\own.getD e.2.toNat 0=own.getD x7.toNat 0:=fun e he=>by
    rw [q2,oO] at he;exact FF e he.1
   by_cases bn:gF x7 x8∈gE L
   ·obtain ⟨_,m1⟩:=acJ h.gr ha hb d9 (aru.2 bn);rw [ak bn] at q3;rw [q3];refine ⟨_,_,_,_,_,_,_,_,_,_,_,_,_,del g (gF x7 x8),rfl,.idle (h.upd h1 hs hR hz hl h.owr h.cgr h.cut G_ Xw h.gr.del (fun e => ?_) (sd h J8 1 (by omega))),.inl ⟨rfl,rfl,1,rfl,by rw [if_neg (by omega),m1],by omega,.inl (by rw [m1])⟩⟩;rw [oO,h.split hs,q2,oO];constructor
    ·rintro ⟨h|h|h,h'⟩
     ·exact .inl h
     ·exact .inr (.inl ⟨h,h'⟩)
     ·exact .inr (.inr h)
    ·rintro (h|h|h)
     ·exact ⟨.inl h,by rintro rfl;exact hnc h⟩
     ·exact ⟨.inr (.inl h.1),h.2⟩
     ·refine ⟨.inr (.inr h),?_⟩;obtain ⟨j,M,w,hj,hm,he⟩:=h;rintro rfl;exact aX j M w hj hm he
   ·have qm:gF x7 x8∉g:=fun h'=>bn (aru.1 h')
    obtain ⟨_,m1⟩:=acI h.gr ha hb d9 qm;rw [az bn] at q3;rw [q3];refine ⟨_,_,_,_,_,_,_,_,_,_,_,_,_,g,rfl,.idle (h.upd h1 hs hR hz hl h.owr h.cgr h.cut G_ Xw h.gr (fun e => ?_) (sd h J8 2 (by omega))),.inl ⟨rfl,rfl,2,rfl,by rw [if_neg (by omega),m1],by omega,.inl (by rw [m1])⟩⟩;rw [h.split hs,q2,oO];constructor
    ·rintro (h|h|h)
     ·exact .inl h
     ·exact .inr (.inl ⟨h,by rintro rfl;exact bn h⟩)
     ·exact .inr (.inr h)
    ·rintro (h|h|h)
     ·exact .inl h
     ·exact .inr (.inl h.1)
     ·exact .inr (.inr h)
 | rel h hi J8 ha hb hw=>
  have hn:=h.n2;obtain ⟨hL,hy⟩:=h.sh _ _ _ hs;have uD:(((own.getD x7.toNat 0-1).toNat:Nat):Int)+1=own.getD x7.toNat 0:=by omega
  obtain ⟨d1,_,d3,_⟩:=hD.rel rfl;have FF:∀e,e∈gE L->own.getD e.1.toNat 0=own.getD x7.toNat 0/\own.getD e.2.toNat 0=own.getD x7.toNat 0:=fun e he=>by
   have:=hy.2.2.2 e he;rw [uD] at this;exact this
  have FC:∀e,e∈gE L->eF n e=true:=(jY hL.web.gr).1;have Xx:∀x,x∈z.2.2.1↔x∈gE L/\(x.1=x7\/x.2=x7):=fun x=>by
   rw [d3,jK];unfold Bl;rw [decide_eq_true_eq]
  have awW:∀x,x∈gE L'↔x∈gE L/\¬(x.1=x7\/x.2=x7):=fun x=>by
   rw [d1];unfold Bl;rw [decide_eq_false_iff_not]
  have acO:∀x,x∈g->eF n x=true:=h.gr.2.2.2;have hCm:∀x,x∈qI cuts z.2.2.1↔x∈cuts\/x∈z.2.2.1:=fun x=>Vz _ _
  have hCg:∀x,x∈qI cuts z.2.2.1->x∈g:=fun x hx=>by
   rw [h.split hs];rcases (hCm x).1 hx with hx|hx
   ·exact .inl hx
   ·exact .inr (.inl ((Xx x).1 hx).1)
  have akx:GrOk n (qI cuts z.2.2.1):=abg _ _ h.cgr fun e he=>FC e ((Xx e).1 he).1
  obtain ⟨o1,o2,o3⟩:=h.own_at ha hb;have hIm:∀x,x∈mU own cuts z.2.2.1 x7 x8↔x∈qI cuts z.2.2.1/\(own.set x7.toNat x8).getD x.1.toNat 0=x8/\(own.set x7.toNat x8).getD x.2.toNat 0=x8:=fun x=>by
   unfold mU;rw [jK];constructor
   ·rintro ⟨p1,p2⟩;exact ⟨p1,(auK o2 (acO x (hCg x p1))).1 p2⟩
   ·rintro ⟨p1,p2⟩;exact ⟨p1,(auK o2 (acO x (hCg x p1))).2 p2⟩
  have hIg:∀x,x∈mU own cuts z.2.2.1 x7 x8->x∈g:=fun x hx=>hCg x ((hIm x).1 hx).1
  have aFX:GrOk n (mU own cuts z.2.2.1 x7 x8):=⟨akx.1,akx.2.1,akx.2.2.1.filter _,fun e he=>akx.2.2.2 e ((hIm e).1 he).1⟩
  have Q_:∀e,e∈z.2.2.1->e∉cuts:=fun e he hc=>by
   have:=FF e ((Xx e).1 he).1;exact h.cut e hc (this.1.trans this.2.symm)
  have I1:∀x:Ed,eF n x=true->x.1≠x7/\x.2≠x7->(own.set x7.toNat x8).getD x.1.toNat 0=own.getD x.1.toNat 0/\(own.set x7.toNat x8).getD x.2.toNat 0=own.getD x.2.toNat 0:=fun x hx aX=>by
   have hr:=fK hx;rw [o1 _ ⟨hr.1,hr.2.1⟩,o1 _ ⟨hr.2.2.1,hr.2.2.2.1⟩,if_neg aX.1,if_neg aX.2];exact ⟨rfl,rfl⟩
  have hP:∀{said':aa Sd},yH said'/\said'.length<=c+1->Ply n (own.set x7.toNat x8) ((mU own cuts z.2.2.1 x7 x8).foldl del (qI cuts z.2.2.1)) (lab.set (own.getD x7.toNat 0-1).toNat z.2.2.2) (nums.set (own.getD x7.toNat 0-1).toNat z.1) said' (ss.set (own.getD x7.toNat 0-1).toNat (L',z)) ((mU own cuts z.2.2.1 x7 x8).foldl del g) (c+1):=by
   intro said' tX;have ayF:∀(j:Nat) (M:aa aC) (w:An),j≠(own.getD x7.toNat 0-1).toNat->ss[j]?=some (M,w)->∀e,e∈gE M->eF n e=true/\(own.getD e.1.toNat 0=(j:Int)+1/\own.getD e.2.toNat 0=(j:Int)+1)/\e.1≠x7/\e.2≠x7:=fun j M w hj hm e he=>by
    obtain ⟨s1,_,_,_,s5⟩:=h.sh j M w hm;have:=s5 e he;refine ⟨(jY s1.web.gr).1 e he,this,fun hc => ?_,fun hc => ?_⟩
    ·rw [hc] at this;omega
    ·rw [hc] at this;omega
   refine h.upd h1 hs hR hz hl ⟨o2,o3⟩ (Mt _ _ akx) (fun e he => ?_) (fun e he => ?_) (fun j M w hj hm e he => ?_) (Mt _ _ h.gr) (fun e => ?_) tX
   ·obtain ⟨p1,p2⟩:=(qC _ _).1 he;intro ry;have b_:=acO e (hCg e p1);have hr:=fK b_;have hI:(own.set x7.toNat x8).getD e.1.toNat 0≠x8:=fun h'=>p2 ((hIm e).2 ⟨p1,h',ry▸h'⟩)
    have e1:=o1 _ (show 0<=e.1/\e.1<(n:Int) from ⟨hr.1,hr.2.1⟩);have e2:=o1 _ (show 0<=e.2/\e.2<(n:Int) from ⟨hr.2.2.1,hr.2.2.2.1⟩);by_cases h1':e.1=x7
    ·rw [if_pos h1'] at e1;exact hI e1
    ·by_cases Bq:e.2=x7
     ·rw [if_pos Bq] at e2;exact hI (ry.trans e2)
     ·rw [if_neg h1'] at e1;rw [if_neg Bq] at e2;rw [e1,e2] at ry;rcases (hCm e).1 p1 with p1|p1
      ·exact h.cut e p1 ry
      ·rcases ((Xx e).1 p1).2 with h'|h'
       ·exact h1' h'
       ·exact Bq h'
   ·obtain ⟨p1,p2⟩:=(awW e).1 he;have:=I1 e (FC e p1) ⟨fun h'=>p2 (.inl h'),fun h'=>p2 (.inr h')⟩;rw [this.1,this.2];exact FF e p1
   ·obtain ⟨p0,p1,p2⟩:=ayF j M w hj hm e he;have:=I1 e p0 p2;rw [this.1,this.2];exact p1
   ·rw [qC,qC,hCm,h.split hs];constructor
    ·rintro ⟨p|p|p,p'⟩
     ·exact .inl ⟨.inl p,p'⟩
     ·by_cases hv:e.1=x7\/e.2=x7
      ·exact .inl ⟨.inr ((Xx e).2 ⟨p,hv⟩),p'⟩
      ·exact .inr (.inl ((awW e).2 ⟨p,hv⟩))
     ·exact .inr (.inr p)
    ·rintro (⟨p|p,p'⟩|p|p)
     ·exact ⟨.inl p,p'⟩
     ·exact ⟨.inr (.inl ((Xx e).1 p).1),p'⟩
     ·obtain ⟨p1,p2⟩:=(awW e).1 p;refine ⟨.inr (.inl p1),fun hI => ?_⟩;have:=I1 e (FC e p1) ⟨fun h'=>p2 (.inl h'),fun h'=>p2 (.inr h')⟩;have h3:=((hIm e).1 hI).2.1;rw [this.1,(FF e p1).1] at h3;exact hw h3
     ·refine ⟨.inr (.inr p),fun hI => ?_⟩;obtain ⟨j,M,w,hj,hm,he⟩:=p;obtain ⟨p0,p1,p2⟩:=ayF j M w hj hm e he;rcases (hCm e).1 ((hIm e).1 hI).1 with p|p
      ·exact h.cut e p (p1.1.trans p1.2.symm)
      ·rcases ((Xx e).1 p).2 with h'|h'
       ·exact p2.1 h'
       ·exact p2.2 h'
  unfold QT;rw [if_pos rfl,if_pos rfl];unfold Mm;rw [if_pos Q_];by_cases h0:(mU own cuts z.2.2.1 x7 x8).length=0
  ·rw [if_pos h0];have h0':=qL.1 h0;have hm:=Xl (g:=g) (b:=x8) ha;rw [if_pos (aV.2 (by have:=h.k;omega))] at hm;have:=hP (sd h J8 1 (by omega));rw [h0'] at this;exact ⟨_,_,_,_,_,_,_,_,_,_,_,_,_,g,rfl,.idle this,.inl ⟨rfl,rfl,1,rfl,by rw [if_neg (by omega),hm],by omega,.inl (by rw [hm])⟩⟩
  ·rw [if_neg h0];refine ⟨_,_,_,_,_,_,_,_,_,_,_,_,_,g,rfl,.acc (hP (said':=said) ⟨h.sdo.1,by have:=h.sdo.2;omega⟩) hi J8 ha (by rw [lL];exact hb) ⟨aFX,fun h'=>h0 (by rw [h'];rfl)⟩ (fun e he => ?_) h.gr (fun e => ?_),.inr ⟨rfl,by omega,rfl,rfl,rfl,rfl,rfl,rfl,rfl,rfl⟩⟩
   ·have:=(hIm e).1 he;exact ⟨this.2.1,this.2.2,fun h'=>((qC _ _).1 h').2 he⟩
   ·rw [qC];constructor
    ·intro he;by_cases hI:e∈mU own cuts z.2.2.1 x7 x8
     ·exact .inr hI
     ·exact .inl ⟨he,hI⟩
    ·rintro (he|he)
     ·exact he.1
     ·exact hIg e he
 | acc h hi J8 ha hb qo bn gZ hg=>
  obtain ⟨hL,hy⟩:=h.sh _ _ _ hs;have uD:(((x8-1).toNat:Nat):Int)+1=x8:=by omega
  obtain ⟨d1,_,_,_⟩:=hD.add (.inr rfl);have hm:=Xl (g:=g) (b:=x8) ha;rw [if_pos (aV.2 (by have:=h.k;omega))] at hm;unfold QT;rw [if_pos rfl,if_neg (by omega)];refine ⟨_,_,_,_,_,_,_,_,_,_,_,_,_,g,rfl,.idle (h.upd h1 hs hR hz hl h.owr h.cgr h.cut (fun e he => ?_) (fun j M w _ hj e he=>(h.sh j M w hj).2.2.2.2 e he) gZ (fun e => ?_) (sd h J8 1 (by omega))),.inl ⟨rfl,rfl,1,rfl,by rw [if_neg (by omega),hm],by omega,.inl (by rw [hm])⟩⟩
  ·rcases (d1 e).1 he with he|he
   ·have:=hy.2.2.2 e he;rw [uD] at this;exact this
   ·exact ⟨(bn e he).1,(bn e he).2.1⟩
  ·rw [hg,h.split hs,d1];constructor
   ·rintro ((h|h|h)|h)
    ·exact .inl h
    ·exact .inr (.inl (.inl h))
    ·exact .inr (.inr h)
    ·exact .inr (.inl (.inr h))
   ·rintro (h | (h|h)|h)
    ·exact .inl (.inl h)
    ·exact .inl (.inr (.inl h))
    ·exact .inr h
    ·exact .inl (.inr (.inr h))
end
def mst (n:Int) (g:aa Ed) (s:Sd):aa Ed:=if s.2.2.2.2.2=3 then g else (yG n g s.2.2.1 s.2.2.2.1 s.2.2.2.2.1).2.1
def nX (h:Hd):Int:=h.2.2.2.2.2.2.2.2.2.1
def lF (h:Hd):aa Sd:=h.2.2.2.2.2.2.2.2.2.2.2.2.2.2
def orO (h:Hd):Be:=(h.2.2.2.2.2.2.2.2.2.2.1,h.2.2.2.2.2.2.2.2.2.2.2.1,h.2.2.2.2.2.2.2.2.2.2.2.2.1,h.2.2.2.2.2.2.2.2.2.2.2.2.2.1)
def qO (h:Hd):Int × Int × Int × Int:=(h.2.2.2.2.2.1,h.2.2.2.2.2.2.1,h.2.2.2.2.2.2.2.1,h.2.2.2.2.2.2.2.2.1)
abbrev flI (h:Hd) (t:Int):Nk:=(h.1,h.2.1,h.2.2.1,h.2.2.2.1,h.2.2.2.2.1,h.2.2.2.2.2.1,h.2.2.2.2.2.2.1,h.2.2.2.2.2.2.2.1,h.2.2.2.2.2.2.2.2.1,h.2.2.2.2.2.2.2.2.2.1,h.2.2.2.2.2.2.2.2.2.2.1,h.2.2.2.2.2.2.2.2.2.2.2.1,h.2.2.2.2.2.2.2.2.2.2.2.2.1,h.2.2.2.2.2.2.2.2.2.2.2.2.2.1,h.2.2.2.2.2.2.2.2.2.2.2.2.2.2,t)
inductive HP (n:Nat):Hd->List Bn->List Ed->Nat->Prop
 | mk {own:List Int} {cuts:List Ed} {lab:List (List Int)} {nums:List Int} {said:List Sd} {ss:List Bn} {g:List Ed} {c:Nat} {x5 x6 x7 x8 x9 x10 x11:Int} {x12:List Ed} {x13:Int}
   (hp:Pnd n own cuts lab nums said ss g c x5 x6 x7 x8 x9 x10 x11 x12 x13) (hf:said.foldl (mst n) []=g) (hc:c<=80):HP n ((n:Int),own,cuts,lab,nums,x5,x6,x7,x8,x9,x10,x11,x12,x13,said) ss g c
section
variable {n:Nat} {own:aa Int} {cuts:aa Ed} {lab:aa (aa Int)} {nums:aa Int} {said:aa Sd} {ss:aa Bn} {g:aa Ed} {c:Nat} {x5 x6 x7 x8 x9 x10 x11:Int} {x12:aa Ed} {x13:Int}
theorem Ply.up (h:Ply n own cuts lab nums said ss g c):Ply n own cuts lab nums said ss g (c+1):=h.onw ⟨h.sdo.1,by have:=h.sdo.2;omega⟩
theorem Pnd.up (h:Pnd n own cuts lab nums said ss g c x5 x6 x7 x8 x9 x10 x11 x12 x13):Pnd n own cuts lab nums said ss g (c+1) x5 x6 x7 x8 x9 x10 x11 x12 x13:=by
 cases h with
 | idle h=>exact .idle h.up
 | chg h hi hs ho ha hb d9 hw=>exact .chg h.up hi hs ho ha hb d9 hw
 | rel h hi hs ha hb hw=>exact .rel h.up hi hs ha hb hw
 | acc h hi hs ha hb qo bn gZ hg=>exact .acc h.up hi hs ha hb qo bn gZ hg
theorem Pnd.x12l (h:Pnd n own cuts lab nums said ss g c x5 x6 x7 x8 x9 x10 x11 x12 x13):x12.length<=66:=by
 cases h with
 | idle h=>simp
 | chg h hi hs ho ha hb d9 hw=>simp
 | rel h hi hs ha hb hw=>simp
 | acc h hi hs ha hb qo bn gZ hg=>exact QY qo.1
theorem Ply.sz (h:Ply n own cuts lab nums said ss g c) (hc:c<=80) (hx:x12.length<=66):HdS ((n:Int),own,cuts,lab,nums,x5,x6,x7,x8,x9,x10,x11,x12,x13,said):=by
 obtain ⟨k1,k2,k3,k4⟩:=h.k;have hn:=h.n2;have jX:=QY h.cgr;have hol:=h.owr.1;have hsl:=h.sdo.2;refine ⟨by show own.length<=12;omega,by show cuts.length<=132;omega,⟨by show lab.length<=3;omega,fun y hy => ?_⟩,by show nums.length<=3;omega,by show x12.length<=132;omega,by show said.length<=81;omega⟩;obtain ⟨j,hj,rfl⟩:=FI.1 (show y∈lab from hy);have tV:j<ss.length:=by omega
 obtain ⟨_,_,_,s4,_⟩:=h.sh j _ _ (aR tV);rw [dw,aR hj] at s4;have s4:lab[j]=_:=s4;rw [s4,dU];omega
theorem HP.sz {h:Hd} (hp:HP n h ss g c):HdS h:=by
 cases hp with
 | mk hp hf hc=>
  obtain ⟨g',hP⟩:=hp.ply;exact hP.sz hc hp.x12l
theorem HP.up {h:Hd} (hp:HP n h ss g c) (hc:c<80):HP n h ss g (c+1):=by
 cases hp with
 | mk hp hf _=>exact .mk hp.up hf (by omega)
theorem HP.len {h:Hd} (hp:HP n h ss g c):h.1=n/\(2<=n/\n<=12)/\(1<=ss.length/\ss.length<=3)/\h.2.2.2.1.length=ss.length/\GrOk n g/\(lF h).foldl (mst n) []=g/\(lF h).length<=c/\c<=80:=by
 cases hp with
 | mk hp hf hc=>
  obtain ⟨g',hP⟩:=hp.ply;have hk:=hP.k;refine ⟨rfl,hP.n2,⟨hk.1,hk.2.1⟩,hk.2.2.1,?_,hf,hP.sdo.2,hc⟩;cases hp with
  | idle h=>exact h.gr
  | chg h=>exact h.gr
  | rel h=>exact h.gr
  | acc h hi hs ha hb qo bn gZ hg=>exact gZ
theorem HP.okBoth {h:Hd} (hp:HP n h ss g c):v_ h=some (true,())/\A8 h=some (true,()):=by
 have hs:=hp.sz;cases hp with
 | mk hp hf hc=>
  obtain ⟨b1,b2,b3,b4,b5,b6⟩:=hs.bd;have:=hp.hd hc;exact ⟨(QP _ _ _ _ _ _ _ _ _ _ _ _ _ _ _ b1 b2 b3 b5 b6).trans (by rw [this]),(QQ _ _ _ _ _ _ _ _ _ _ _ _ _ _ _ b1 b2 b3 b5 b6).trans (by rw [this])⟩
theorem ajZ {op a b v i:Int} {g':aa Ed} (hf:said.foldl (mst n) []=g) (h:Rpl n g op a b v g'):(said++[(i,i,op,a,b,v)]).foldl (mst n) []=g':=by
 rw [pF,hf];exact h.1.symm
theorem HP.take {h:Hd} (hp:HP n h ss g c) (hc:c<80) (i op a b:Int):∃(h':Hd) (told:Int) (g':aa Ed),tkU h i op a b=flI h' told/\HP n h' ss g' (c+1) /\
  ((told=0/\h'=h/\g'=g)\/sA (lF h) i<0/\nX h=0/\((told=1/\nX h'=0/\∃v,lF h'=lF h++[(i,i,op,a,b,v)]/\Rpl n g op a b v g')\/(told=2/\nX h'≠0/\lF h'=lF h/\g'=g/\qO h'=(i,op,a,b)))):=by
 have mX:=hp.up hc;cases hp with
 | @mk own cuts lab nums said _ _ _ x5 x6 x7 x8 x9 x10 x11 x12 x13 hp hf iW=>
  show ∃(h':Hd) (told:Int) (g':aa Ed),Vu (n:Int) own cuts lab nums x5 x6 x7 x8 x9 x10 x11 x12 x13 said i op a b=_/\_;unfold Vu;by_cases aT:Fa (n:Int) own cuts lab nums x5 x6 x7 x8 x9 x10 x11 x12 x13 said i=true
  ·rw [if_pos aT];obtain ⟨_,z5,_,_,_,z9,_⟩:=Sb aT;unfold Fa at aT;simp only [aU,decide_eq_true_eq,sK,decide_eq_false_iff_not] at aT;obtain ⟨_,hi,J8,_,_⟩:=aT;have hP:Ply n own cuts lab nums said ss g c:=by
    cases hp with
    | idle h=>exact h
    | chg h jv=>rw [z5] at jv;exact absurd jv (by decide)
    | rel h jv=>rw [z5] at jv;exact absurd jv (by decide)
    | acc h jv=>rw [z5] at jv;exact absurd jv (by decide)
   obtain ⟨cuts',t5,t6,t7,t8,t9,t10,t11,t12,t13,said',told,g',e1,e2,e3⟩:=auJ (op:=op) (a:=a) (b:=b) hP hi (by omega);rw [e1];refine ⟨((n:Int),own,cuts',lab,nums,t5,t6,t7,t8,t9,t10,t11,t12,t13,said'),told,g',rfl,.mk e2 ?_ (by omega),.inr ⟨by show sA said i<0;omega,z9,?_⟩⟩
   ·rcases e3 with ⟨_,_,v,rfl,hr⟩|⟨_,_,rfl,rfl,_⟩
    ·exact ajZ hf hr
    ·exact hf
   ·rcases e3 with ⟨r1,r2,v,r3,hr⟩|⟨r1,r2,r3,r4,r5,r6,r7,r8⟩
    ·exact .inl ⟨r1,r2,v,r3,hr⟩
    ·exact .inr ⟨r1,r2,r3,r4,by show (t5,t6,t7,t8)=_;rw [r5,r6,r7,r8]⟩
  ·rw [if_neg aT];exact ⟨_,0,g,rfl,mX,.inl ⟨rfl,rfl,rfl⟩⟩
theorem HP.hear {h:Hd} (hp:HP n h ss g c) (hb:nX h≠0) (hc:c<80):∃(L:aa aC) (y:An) (L':aa aC) (z:An) (h':Hd) (told:Int) (g':aa Ed),(1<=nX h/\nX h<=ss.length)/\ss[(nX h-1).toNat]?=some (L,y)/\ShR (nX h) n L y/\(orO h).2.2.1.length<=66 /\
  oM ((nX h,(n:Int),L,y),orO h)=some (zM (nX h) n L' z,())/\nG ((nX h,(n:Int),L,y),orO h)=some (zM (nX h) n L' z,())/\ShR (nX h) n L' z/\pV n (orO h)=true/\pW n z=true /\
  heU h (nX h) z=flI h' told/\HP n h' (ss.set (nX h-1).toNat (L',z)) g' (c+1) /\
  ((told=1/\nX h'=0/\∃v,lF h'=lF h++[((qO h).1,(qO h).1,(qO h).2.1,(qO h).2.2.1,(qO h).2.2.2,v)]/\Rpl n g (qO h).2.1 (qO h).2.2.1 (qO h).2.2.2 v g')\/(told=2/\nX h'≠0/\lF h'=lF h/\g'=g/\qO h'=qO h/\(orO h).2.1=3/\(orO h').2.1=4)):=by
 cases hp with
 | @mk own cuts lab nums said _ _ _ x5 x6 x7 x8 x9 x10 x11 x12 x13 hp hf iW=>
  have hb:x9≠0:=hb;obtain ⟨r1,L,y,r2,r3,r4,r5⟩:=hp.ord hb iW;obtain ⟨g0,hP⟩:=hp.ply;obtain ⟨hR0,hy⟩:=hP.sh _ _ _ r2;have uD:(((x9-1).toNat:Nat):Int)+1=x9:=by omega
  rw [uD] at hR0;have aFY:=hp.x12l;rcases aqZ hR0 (x10,x11,x12,x13) (by simp only;omega) with ⟨_,_,q|q⟩|⟨_,_,_,q⟩|⟨_,_,L',z,o1,o2,hR,hD⟩
  ·rw [r3] at q;cases q
  ·exact absurd r4 q.2
  ·have q:x10=y.1:=q;omega
  obtain ⟨own',cuts',t5,t6,t7,t8,t9,t10,t11,t12,t13,said',told,g',e1,e2,e3⟩:=auL hp hb r1.1 r2 r4 hR hD;have hz1:z.1=x10:=hD.num;have hza:pW n z=true:=by
   rcases hR.an with VC|⟨ha,_⟩
   ·unfold blA at VC;simp only [aU,decide_eq_true_eq] at VC;have:=hR0.len.2.2.2.1;omega
   ·exact ha
  have aT:Fb (n:Int) own cuts lab nums x5 x6 x7 x8 x9 x10 x11 x12 x13 said x9 z=true:=by
   unfold Fb;rw [hp.hd iW,hza,az hb,ak rfl,ak hz1];rfl
  have he:heU ((n:Int),own,cuts,lab,nums,x5,x6,x7,x8,x9,x10,x11,x12,x13,said) x9 z=flI ((n:Int),own',cuts',lab.set (x9-1).toNat z.2.2.2,nums.set (x9-1).toNat z.1,t5,t6,t7,t8,t9,t10,t11,t12,t13,said') told:=by
   show Vv (n:Int) own cuts lab nums x5 x6 x7 x8 x9 x10 x11 x12 x13 said x9 z=_;unfold Vv;rw [if_pos aT,e1]
  refine ⟨L,y,L',z,_,told,g',r1,r2,hR0,aFY,o1,o2,hR,r3,hza,he,.mk e2 ?_ (by omega),?_⟩
  ·rcases e3 with ⟨_,_,v,rfl,hr⟩|⟨_,_,rfl,rfl,_⟩
   ·exact ajZ hf hr
   ·exact hf
  ·rcases e3 with ⟨s1,s2,v,s3,hr⟩|⟨s1,s2,s3,s4,s5,s6,s7,s8,s9,s10⟩
   ·exact .inl ⟨s1,s2,v,s3,hr⟩
   ·exact .inr ⟨s1,s2,s3,s4,by show (t5,t6,t7,t8)=(x5,x6,x7,x8);rw [s5,s6,s7,s8],s9,s10⟩
end
theorem auM {n k:Nat} (hk:1<=k) (v:Int) (hv:0<=v/\v<n):1<=(IZ n k).getD v.toNat 0/\(IZ n k).getD v.toNat 0<=k:=by
 rw [gD (azG (k:=k) (show v.toNat<n by omega))];have:=Nat.mod_lt v.toNat (show k > 0 from by omega);omega
theorem HP.new {n k:Nat} (h2:2<=n) (dO:n<=12) (h1:1<=k) (h3:k<=3):HP n (hdN n k) (List.replicate k ([],(0,false,[],[]))) [] 0:=by
 refine .mk (.idle ⟨⟨h2,dO⟩,by simp only [zO];exact ⟨h1,h3,trivial,trivial⟩,⟨ajy n k,fun v hv=>by rw [zO];exact auM h1 v hv⟩,ajX ⟨h2,dO⟩,fun e he=>(by cases he),fun j L y hj => ?_,ajX ⟨h2,dO⟩,fun e => ?_,⟨fun j hj=>absurd hj (by simp),by simp⟩⟩) rfl (by omega)
 ·have uE:=(aZ hj).1;rw [zO] at uE;have:=eY hj;rw [List.mem_replicate] at this;cases this.2;refine ⟨aBI (by omega) (by omega) dO,?_,by simp,?_,fun e he=>by cases he⟩
  ·rw [dw,af3,if_pos uE];rfl
  ·rw [dw,af3,if_pos uE];rfl
 ·constructor
  ·intro h;cases h
  ·rintro (h|⟨j,L,y,hj,he⟩)
   ·cases h
   ·have:=eY hj;rw [List.mem_replicate] at this;cases this.2;cases he
theorem auN (c:Bh) (hc:j_ c) (n k i:Int) (hn:n<=1000000) (hk:k<=1000000):∃op a b c',Oy (c,n,k,i)=some ((i,op,a,b),c')/\j_ c':=by
 show ∃op a b c',Ox BIG _=_/\_;rw [as3];obtain ⟨r0,c0,k0,o0⟩:=uQ c [1,1,1,1,2,2,3,3,4] hc (by simp) (by simp);obtain ⟨r1,c1,k1,o1,_⟩:=jg c0 n o0 hn;obtain ⟨r2,c2,k2,o2,_⟩:=jg c1 n o1 hn;rw [k0,af];simp only;rw [k1,af];simp only;rw [k2,af];simp only;have hx:∃c3 op a b,(bif decide (r0=(4:Int)) then Option.bind (fG (c2,k)) fun r3=>some (r3.2,(i,r0,r1,IntKind.wrap .i64 ((1:Int)+r3.1))) else some (c2,(i,r0,r1,r2)):ah (Bh × (Int × Int × Int × Int)))=some (c3,(i,op,a,b))/\j_ c3:=by
  by_cases h:r0=4
  ·obtain ⟨r3,c3,k3,o3,_⟩:=jg c2 k o2 hk;rw [ak h,ai,k3,af];exact ⟨_,_,_,_,rfl,o3⟩
  ·rw [az h,ax];exact ⟨_,_,_,_,rfl,o2⟩
 obtain ⟨c3,op,a',b',hx,o3⟩:=hx;rw [hx,af];simp only;obtain ⟨r5,c5,k5,o5,_⟩:=jg c3 30 o3 (by omega);rw [k5,af];simp only;by_cases h0:r5=0
 ·obtain ⟨r6,c6,k6,o6⟩:=uQ c5 [-1,n,11,12] o5 (by simp) (by simp);rw [ak h0,ai,k6,af,af];exact ⟨_,_,_,_,rfl,o6⟩
 rw [az h0,ax];by_cases h1:r5=1
 ·obtain ⟨r6,c6,k6,o6⟩:=uQ c5 [-1,0,n,12] o5 (by simp) (by simp);rw [ak h1,ai,k6,af,af];exact ⟨_,_,_,_,rfl,o6⟩
 rw [az h1,ax];by_cases h2:r5=2
 ·obtain ⟨r6,c6,k6,o6⟩:=uQ c5 [0,5] o5 (by simp) (by simp);rw [ak h2,ai,k6,af,af];exact ⟨_,_,_,_,rfl,o6⟩
 ·rw [az h2,ax,af];exact ⟨_,_,_,_,rfl,o5⟩
abbrev Shr:=Int × Int × List aC × An
def SLR (n:Nat) (S:aa Shr) (ss:aa Bn):Prop:=S.length=ss.length/\∀(j:Nat) (L:aa aC) (y:An),ss[j]?=some (L,y)->S[j]?=some ((j:Int)+1,(n:Int),L,y)
theorem SLR.at {n:Nat} {S:aa Shr} {ss:aa Bn} (h:SLR n S ss) {s:Int} (h1:1<=s) {L:aa aC} {y:An} (hs:ss[(s-1).toNat]?=some (L,y)):(s-1).toNat<S.length/\S[(s-1).toNat]?=some (s,(n:Int),L,y):=by
 have:=(aZ hs).1;have h2:=h.2 _ _ _ hs;rw [show (((s-1).toNat:Nat):Int)+1=s from by omega] at h2;exact ⟨by have:=h.1;omega,h2⟩
theorem SLR.set {n:Nat} {S:aa Shr} {ss:aa Bn} (h:SLR n S ss) {s:Int} (h1:1<=s) (L:aa aC) (y:An):SLR n (S.set (s-1).toNat (s,(n:Int),L,y)) (ss.set (s-1).toNat (L,y)):=by
 refine ⟨by rw [lL,lL];exact h.1,fun j M w hj => ?_⟩;rw [Cg] at hj ⊢;by_cases tV:(s-1).toNat=j
 ·rw [if_pos tV] at hj ⊢;by_cases hl:(s-1).toNat<ss.length
  ·rw [if_pos hl] at hj;cases hj;rw [if_pos (by have:=h.1;omega),show (j:Int)+1=s from by omega]
  ·rw [if_neg hl] at hj;cases hj
 ·rw [if_neg tV] at hj ⊢;exact h.2 j M w hj
theorem azV (h:Hd):Da h=some (!decide (nX h=0),()):=acx _ _ _ _ _ _ _ _ _ _ _ _ _ _ _
abbrev flH (h:Hd) (b:Bool):Int × List Int × List (Int × Int) × List (List Int) × List Int × Int × Int × Int × Int × Int × Int × Int × List (Int × Int) × Int × List (Int × Int × Int × Int × Int × Int) × Bool:=(h.1,h.2.1,h.2.2.1,h.2.2.2.1,h.2.2.2.2.1,h.2.2.2.2.2.1,h.2.2.2.2.2.2.1,h.2.2.2.2.2.2.2.1,h.2.2.2.2.2.2.2.2.1,h.2.2.2.2.2.2.2.2.2.1,h.2.2.2.2.2.2.2.2.2.2.1,h.2.2.2.2.2.2.2.2.2.2.2.1,h.2.2.2.2.2.2.2.2.2.2.2.2.1,h.2.2.2.2.2.2.2.2.2.2.2.2.2.1,h.2.2.2.2.2.2.2.2.2.2.2.2.2.2,b)
theorem aq3 {N K:Nat} (n1:1<=N) (n2:N<=12) (k1:1<=K) (k2:K<=3):tq ((N:Int),(K:Int))=some (flH (hdN N K) true,()):=by
 have hm:maxLen=9223372036854775807:=by decide
 show Cs BIG _=_;rw [YI,dH,dH,aV.2 (by omega),aV.2 (by omega)];simp only [bB,ax,af];have g1:∀(s0:Hd),s0.2.1=[]->∀F:(Hd × Int->ah Hd)->Hd × Int->ah Hd,
   (∀self (s:Hd) (i:Nat),i<N->s.2.1.length=i->F self (s,(i:Int))=self ((s.1,s.2.1++[1+Int.tmod (i:Int) K],s.2.2),((i+1:Nat):Int)))->(∀self s,F self (s,(N:Int))=some s) ->
   aJ BIG F (s0,0)=some (s0.1,IZ N K,s0.2.2):=by
  intro s0 h0 F hF hE;rw [rangeLoop N (by omega) (fun i (s:Hd)=>s.2.1.length=i) (fun i s=>(s.1,s.2.1++[1+Int.tmod (i:Int) K],s.2.2)) id (by rw [h0];rfl) (fun i s _ h=>by simp [h]) (fun self s i hi h=>hF self s i hi h) (fun self s _=>hE self s),ajl,h0];rfl
 rw [ak (by omega),ai,ak (by omega),ai,g1 _ rfl]
 ·rw [af,rangeLoop K (by omega) (fun i (s:Hd)=>s.2.2.2.1.length=i) (fun _ s=>(s.1,s.2.1,s.2.2.1,s.2.2.2.1++[pU N],s.2.2.2.2)) id rfl (fun i s _ h=>by simp [h])]
  ·rw [ajm];rfl
  ·intro self s i hi mY;simp only [show ((i:Int)<(K:Int)) from by omega,decide_true,ai];rw [E8 N [] (by omega) (fun e he=>by cases he) (by simp),af,ak (by simp;omega),ai,bT (by omega)];rfl
  ·intro self s _;simp
 ·intro self s i hi hs;have:=ajn (i:=i) (k:=K) (by omega) (by omega);simp only [show ((i:Int)<(N:Int)) from by omega,decide_true,ai];rw [az (by omega),ax,wr (by omega) (by omega),ak (by simp;omega),ai,bT (by omega)]
 ·intro self s;simp
theorem awy {h h':Hd} {i op a b told:Int} (e:tkU h i op a b=flI h' told) (ht:told≠0):qb h (1,i,op,a,b,0,0,false,[],[],0,0,[],0)=some h':=by
 have hx:Bj h (1,i,op,a,b,0,0,false,[],[],0,0,[],0)=GI (tkU h i op a b):=by
  unfold Bj;rw [if_pos rfl]
 unfold qb;rw [hx,e];show (if told=0 then none else some _)=_;rw [if_neg ht];rfl
theorem awz {h h':Hd} {sh told:Int} {y:An} (e:heU h sh y=flI h' told) (ht:told≠0):qb h (2,0,0,0,0,sh,y.1,y.2.1,y.2.2.1,y.2.2.2,0,0,[],0)=some h':=by
 have hx:Bj h (2,0,0,0,0,sh,y.1,y.2.1,y.2.2.1,y.2.2.2,0,0,[],0)=GI (heU h sh y):=by
  unfold Bj;rw [if_neg (show ¬(2:Int)=1 by omega),if_pos rfl]
 unfold qb;rw [hx,e];show (if told=0 then none else some _)=_;rw [if_neg ht];rfl
theorem VA (a:aa Sd) (h:a.length<=1048576):qz (a,a)=some (true,()):=by
 have hm:maxLen=9223372036854775807:=by decide
 show II BIG _=_;rw [aly,ak (rfl:(a.length:Int)=a.length)];simp only [bB,ax];refine dV (P:=fun o=>o=some (true,())) (fun (j:Int)=>∃i:Nat,j=(i:Int)/\i<=a.length) (fun j=>a.length-j.toNat) (fun _ b=>b=Sum.inl ()) (by simp only [BIG];omega) ⟨0,rfl,by omega⟩ (fun self s hx hs => ?_) (fun b hb=>by rw [hb]);obtain ⟨i,rfl,hi⟩:=hx;by_cases hl:i<a.length
 ·rw [ak (by omega),ai,aF hl,aR hl];simp only [af,aF hl,aR hl,decide_true,wF,bB,ax];rw [bT (by omega)];exact hs _ ⟨i+1,rfl,by omega⟩ (by omega)
 ·rw [az (by omega),ax];exact ⟨_,rfl,rfl⟩
theorem aj0 {S α:Type} (st:S->α->ah S):∀(a:aa α) (y:α) (s:S),fM st s (a++[y])=(fM st s a).bind fun s'=>st s' y
 | [],y,s=>by
  show (st s y).bind (fun s'=>some s')=st s y;cases st s y<;>rfl
 | x::a,y,s=>by
  rw [mZ,fM,fM];cases st s x with
  | none=>rfl
  | some s'=>simp only [af,aj0 st a y]
def RcB (r:Rc):Prop:=r.2.2.2.2.2.2.2.2.1.length<=66/\r.2.2.2.2.2.2.2.2.2.1.length<=12/\r.2.2.2.2.2.2.2.2.2.2.2.2.1.length<=66
def RcsB (l:aa Rc) (i:Nat):Prop:=l.length<=i/\∀r,r∈l->RcB r
theorem RcsB.add {l:aa Rc} {i:Nat} (h:RcsB l i) {r:Rc} (hr:RcB r):RcsB (l++[r]) (i+1):=by
 refine ⟨by rw [dP,bF,bQ];have:=h.1;omega,fun x hx => ?_⟩;rcases bG.1 hx with hx|hx
 ·exact h.2 x hx
 ·rw [cK.1 hx];exact hr
theorem RcsB.up {l:aa Rc} {i:Nat} (h:RcsB l i):RcsB l (i+1):=⟨by have:=h.1;omega,h.2⟩
theorem VB (c : Bh) (hc : j_ c) (a : aa Int) (ha : a.length ≤ 1048576) (who : Int) : ∃ (n K : Nat) (h : Hd) (ss : aa Bn) (g : aa Ed) (k : Nat) (hr own : aa Rc) (c' : Bh),
    CJ (c, a, who) = some (((n : Int), (K : Int), if 0 < who then own else hr), c') ∧ j_ c' ∧ (2 ≤ n ∧ n ≤ 12) ∧ (1 ≤ K ∧ K ≤ 3) ∧ RcsB hr 40 ∧ RcsB own 40 ∧ HP n h ss g k ∧ fM qb (hdN n K) hr = some h := by
  have hm : maxLen = 9223372036854775807 := by decide
  show ∃ n K h ss g k hr own c', Lm BIG _ = _ ∧ _;rw [ap3];obtain ⟨n0, c0, k0, o0, hn2, aFR⟩ := azz c hc;obtain ⟨n, rfl⟩ : ∃ n : Nat, n0 = (n : Int) := ⟨n0.toNat, by omega⟩
  obtain ⟨r1, c1, k1, o1, a1, b1, _⟩ := jg c0 3 o0 (by omega);have b1 := b1 (by omega);obtain ⟨K, hK⟩ : ∃ K : Nat, 1 + r1 = (K : Int) := ⟨(1 + r1).toNat, by omega⟩
  rw [k0, af];simp only;rw [k1, af];simp only;rw [wr (n := 1 + r1) (by omega) (by omega), hK];rw [aq3 (by omega) (by omega) (by omega) (by omega), af];simp only [flH];have hP0 := HP.new (n := n) (k := K) (by omega) (by omega) (by omega) (by omega);generalize hh0 : hdN n K = h0 at hP0 ⊢;refine dV (P := fun o => ∃ (n' K' : Nat) (h : Hd) (ss : aa Bn) (g : aa Ed) (k : Nat) (hr own : aa Rc) (c' : Bh), o = some (((n' : Int), (K' : Int), if 0 < who then own else hr), c') ∧ j_ c' ∧ (2 ≤ n' ∧ n' ≤ 12) ∧ (1 ≤ K' ∧ K' ≤ 3) ∧ RcsB hr 40 ∧ RcsB own 40 ∧ HP n' h ss g k ∧ fM qb (hdN n' K') hr = some h)
    (fun (s : aa Shr × Int) => ∃ (i : Nat), s.2 = (i : Int) ∧ 1 ≤ i ∧ i ≤ K + 1 ∧ s.1.length + 1 = i ∧ ∀ j, j < s.1.length → s.1[j]? = some ((j : Int) + 1, (n : Int), [], (0, false, [], []))) (fun s => 8 - s.2.toNat)
    (fun _ (S : aa Shr) => S.length = K ∧ ∀ j, j < S.length → S[j]? = some ((j : Int) + 1, (n : Int), [], (0, false, [], []))) (by simp [BIG]) ⟨1, rfl, by omega, by omega, rfl, fun j hj => absurd hj (by simp)⟩ (fun self s hx hs => ?_) (fun b hb => ?_)
  · obtain ⟨S, j⟩ := s
    obtain ⟨i, h1, hi1, hi, hl, hS⟩ := hx
    simp only at h1 hl hS hs ⊢
    subst h1
    by_cases hik : i ≤ K
    · rw [ak (by omega), ai, Vq, if_pos (by rw [aV.2 (by omega), aV.2 (by omega)]; rfl), af]
      rw [ak (by simp only [bF, bQ]; omega), ai, bT (by omega)]
      refine hs _ ⟨i + 1, rfl, by omega, by omega, by simp only [dP, bF, bQ]; omega, fun j hj => ?_⟩ (by simp; omega)
      simp only [dP, bF, bQ] at hj
      simp only
      by_cases uE : j < S.length
      · rw [rE uE]
        exact hS j uE
      · rw [uT (by omega), show j - S.length = 0 by omega, show (j : Int) + 1 = (i : Int) by omega]
        rfl
    · rw [az (by omega), ax]
      exact ⟨_, rfl, by omega, hS⟩
  · obtain ⟨hS1, hS2⟩ := hb
    have aFZ : SLR n b (List.replicate K ([], (0, false, [], []))) := by
      refine ⟨by rw [zO]; exact hS1, fun j L y hj => ?_⟩;have uE := (aZ hj).1;rw [zO] at uE;have := eY hj;rw [List.mem_replicate] at this;cases this.2;exact hS2 j (by omega)
    obtain ⟨v, s1, s2, s3⟩ := aq1 a ha
    have hv2 : Int.tdiv v 2 = v / 2 := Int.tdiv_eq_ediv_of_nonneg s2
    refine dV (P := fun o => ∃ (n' K' : Nat) (h : Hd) (ss : aa Bn) (g : aa Ed) (k : Nat) (hr own : aa Rc) (c' : Bh), o = some (((n' : Int), (K' : Int), if 0 < who then own else hr), c') ∧ j_ c' ∧ (2 ≤ n' ∧ n' ≤ 12) ∧ (1 ≤ K' ∧ K' ≤ 3) ∧ RcsB hr 40 ∧ RcsB own 40 ∧ HP n' h ss g k ∧ fM qb (hdN n' K') hr = some h)
      (fun (s : Bh × Hd × aa Rc × aa Shr × aa Rc × Int) => ∃ (i : Nat) (ss : aa Bn) (g : aa Ed), s.2.2.2.2.2 = (i : Int) ∧ i ≤ 40 ∧ j_ s.1 ∧ SLR n s.2.2.2.1 ss ∧ HP n s.2.1 ss g i ∧ RcsB s.2.2.1 i ∧ RcsB s.2.2.2.2.1 i ∧ fM qb h0 s.2.2.1 = some s.2.1) (fun s => 40 - s.2.2.2.2.2.toNat)
      (fun _ (b : Bh × aa Rc × aa Rc) => ∃ (h : Hd) (ss : aa Bn) (g : aa Ed) (k : Nat), j_ b.1 ∧ HP n h ss g k ∧ RcsB b.2.1 40 ∧ RcsB b.2.2 40 ∧ fM qb h0 b.2.1 = some h) (by simp [BIG]) ⟨0, _, _, rfl, by omega, o1, aFZ, hP0, ⟨by simp, fun r hr => (by cases hr)⟩, ⟨by simp, fun r hr => (by cases hr)⟩, rfl⟩ (fun self s hx hs => ?_) (fun b hb => ?_)
    · obtain ⟨cu, h, hl, S, own, j⟩ := s
      obtain ⟨i, ss, g, h1, hi, hcu, hSL, hP, hRh, VJ, hF⟩ := hx
      simp only at h1 hcu hSL hP hRh VJ hF hs ⊢
      subst h1
      obtain ⟨r6, c6, k6, o6, a6, b6, b6'⟩ := jg cu (v / 2) hcu (by omega)
      rw [s1, af, az (by omega), ax]
      simp only
      rw [hv2, wr (n := v / 2) (by omega) (by omega), k6, af]
      simp only
      have hr6 : r6 ≤ 30 := by
        by_cases h : 0 < v / 2
        · have := b6 h; omega
        · have := b6' (by omega); omega
      rw [wr (n := 2 + r6) (by omega) (by omega)]
      have up40 : ∀ {l : aa Rc}, RcsB l i → RcsB l 40 := fun h => ⟨by have := h.1; omega, h.2⟩
      by_cases hiv : (i : Int) < 2 + r6
      case neg =>
        rw [az hiv, ax];exact ⟨_, rfl, h, ss, g, i, o6, hP, up40 hRh, up40 VJ, hF⟩
      rw [ak hiv, ai]
      have hz := hP.sz
      have bN := hP.len
      have hlh := hRh.1
      have hlo := VJ.1
      rw [azV h, af]
      by_cases hb : nX h = 0
      · rw [ak hb]
        simp only [bB, gW, ai]
        rw [bT (by omega)]
        obtain ⟨op, a', b', c7, k7, o7⟩ := auN c6 o6 (n : Int) (K : Int) ((i + 1 : Nat) : Int) (by omega) (by omega)
        rw [k7, af]
        simp only
        rw [anV hz, af]
        obtain ⟨h', told, g', e1, e2, _⟩ := hP.take (by omega) ((i + 1 : Nat) : Int) op a' b'
        rw [e1]
        have hx : ∃ (h2 : Hd) (bb : Bool), (bif !decide (told = (0 : Int)) then
          bif decide ((0 : Int) ≤ a') then
           some (h', decide ((0 : Int) ≤ b'))
          else some (h', false)
         else some (h', false) : ah (Hd × Bool)) = some (h2, bb) ∧ h2 = h' ∧ (bb = true → told ≠ 0) := by
          by_cases ht : told = 0
          · rw [ak ht]
            exact ⟨h', false, rfl, rfl, fun h => by cases h⟩
          · rw [az ht]
            by_cases h0' : 0 ≤ a'
            · rw [ak h0']
              exact ⟨h', _, rfl, rfl, fun _ => ht⟩
            · rw [az h0']
              exact ⟨h', _, rfl, rfl, fun _ => ht⟩
        obtain ⟨h2, bb, hx, hh2, hbt⟩ := hx
        subst hh2
        simp only [flI]
        rw [hx, af]
        simp only
        cases bb with
        | false =>
          simp only [ax, af];exact hs _ ⟨i + 1, ss, g, rfl, by omega, o7, hSL, hP.up (by omega), hRh.up, VJ.up, hF⟩ (by simp; omega)
        | true =>
          simp only [ai];rw [ak (by simp only [bF, bQ]; omega), ai, af, af];refine hs _ ⟨i + 1, ss, g', rfl, by omega, o7, hSL, e2, hRh.add ⟨by simp, by simp, by simp⟩, VJ.up, ?_⟩ (by simp; omega);simp only;rw [aj0, hF, af];exact awy e1 (hbt rfl)
      · rw [az hb]
        simp only [gW, bB, ax]
        obtain ⟨L, y, L', z, h', told, g', q1, q2, q3, q4, q5, q6, q7, q8, q9, q10, q11, q12⟩ := hP.hear hb (by omega)
        obtain ⟨p1, p2⟩ := hSL.at q1.1 q2
        have hzl := q7.len
        have q6' : nG ((nX h, (n : Int), L, y), (h.2.2.2.2.2.2.2.2.2.2.1, h.2.2.2.2.2.2.2.2.2.2.2.1, h.2.2.2.2.2.2.2.2.2.2.2.2.1, h.2.2.2.2.2.2.2.2.2.2.2.2.2.1)) = some (zM (nX h) n L' z, ()) := q6
        have hw1 : IntKind.wrap .i64 (h.2.2.2.2.2.2.2.2.2.1 - 1) = nX h - 1 := wr (n := nX h - 1) (by omega) (by omega)
        rw [hw1, bV (by omega) (by omega), p2, af, q6', af, bV (by omega) (by omega), p2, af]
        have aX : told ≠ 0 := by
          rcases q12 with ⟨r, _⟩ | ⟨r, _⟩ <;> omega
        have FF : ∃ own', (bif decide (h.2.2.2.2.2.2.2.2.2.1 = who) then
        bif decide (own.length + ([((3 : Int), (0 : Int), (0 : Int), (0 : Int), (0 : Int), (0 : Int), (0 : Int), false, ([] : aa (Int × Int)), ([] : aa Int), h.2.2.2.2.2.2.2.2.2.2.1, h.2.2.2.2.2.2.2.2.2.2.2.1, h.2.2.2.2.2.2.2.2.2.2.2.2.1, h.2.2.2.2.2.2.2.2.2.2.2.2.2.1)]).length ≤ 4294967296) then
         some (own ++ ([((3 : Int), (0 : Int), (0 : Int), (0 : Int), (0 : Int), (0 : Int), (0 : Int), false, [], [], h.2.2.2.2.2.2.2.2.2.2.1, h.2.2.2.2.2.2.2.2.2.2.2.1, h.2.2.2.2.2.2.2.2.2.2.2.2.1, h.2.2.2.2.2.2.2.2.2.2.2.2.2.1)]))
        else none
       else some own : ah (aa Rc)) = some own' ∧ RcsB own' (i + 1) := by
          by_cases hw : h.2.2.2.2.2.2.2.2.2.1 = who
          · rw [ak hw, ai, ak (by simp only [bF, bQ]; omega), ai]
            exact ⟨_, rfl, VJ.add ⟨by simp, by simp, q4⟩⟩
          · rw [az hw, ax]
            exact ⟨_, rfl, VJ.up⟩
        obtain ⟨own', FF, aF0⟩ := FF
        rw [FF, af]
        have hh : zm (h, h.2.2.2.2.2.2.2.2.2.1, ((zM (nX h) (n : Int) L' z).2.2.2.2.2.2.2.1, (zM (nX h) (n : Int) L' z).2.2.2.2.2.2.2.2.1, (zM (nX h) (n : Int) L' z).2.2.2.2.2.2.2.2.2.1, (zM (nX h) (n : Int) L' z).2.2.2.2.2.2.2.2.2.2.1)) = some (flI h' told, ()) := (anW hz (nX h) z (by omega) (by omega)).trans (by rw [q10])
        rw [hh, af, ak (by simp only [bF, bQ]; omega), ai, af]
        simp only
        rw [bT (by omega)]
        refine hs _ ⟨i + 1, ss.set (nX h - 1).toNat (L', z), g', rfl, by omega, o6, hSL.set q1.1 L' z, q11, hRh.add ⟨by show z.2.2.1.length ≤ 66; omega, by show z.2.2.2.length ≤ 12; omega, by simp⟩, aF0, ?_⟩ (by simp; omega)
        simp only
        rw [aj0, hF, af]
        exact awz q10 aX
    · obtain ⟨cu, hr, own⟩ := b
      obtain ⟨h, ss, g, k, q1, q2, q3, q4, q5⟩ := hb
      simp only at q1 q3 q4 q5 ⊢
      by_cases hw : 0 < who
      · rw [ak hw, ai]
        exact ⟨n, K, h, ss, g, k, hr, own, cu, by rw [if_pos hw], q1, by omega, by omega, q3, q4, q2, by rw [hh0]; exact q5⟩
      · rw [az hw, ax]
        exact ⟨n, K, h, ss, g, k, hr, own, cu, by rw [if_neg hw], q1, by omega, by omega, q3, q4, q2, by rw [hh0]; exact q5⟩
theorem azW {h h':Hd} {r:Rc} (e:qb h r=some h'):∃t,lF h'=lF h++t:=by
 obtain ⟨x0,x1,x2,x3,x4,x5,x6,x7,x8,x9,x10,x11,x12,x13,x14⟩:=h;have tk:∀i op a b,∃t,lF (GI (Vt x0 x1 x2 x3 x4 x14 i op a b)).2=x14++t:=by
  intro i op a b;unfold Vt tkE
  (repeat' split)<;>first|exact ⟨[_],rfl⟩|exact ⟨[],(m_ _).symm⟩
 have he:∀(y3:aa (aa Int)) (y4:aa Int) i op a b q ok es,∃t,lF (GI (QT x0 x1 x2 y3 y4 x14 i op a b q ok es)).2=x14++t:=by
  intro y3 y4 i op a b q ok es;unfold QT Mm
  (repeat' split)<;>first|exact ⟨[_],rfl⟩|exact ⟨[],(m_ _).symm⟩
 unfold qb at e;split at e
 ·cases e
 ·cases e;unfold Bj;split
  ·show ∃t,lF (GI (Vu x0 x1 x2 x3 x4 x5 x6 x7 x8 x9 x10 x11 x12 x13 x14 _ _ _ _)).2=x14++t;unfold Vu;split
   ·exact tk _ _ _ _
   ·exact ⟨[],(m_ _).symm⟩
  ·split
   ·show ∃t,lF (GI (Vv x0 x1 x2 x3 x4 x5 x6 x7 x8 x9 x10 x11 x12 x13 x14 _ _)).2=x14++t;unfold Vv;split
    ·exact he _ _ _ _ _ _ _ _ _
    ·exact ⟨[],(m_ _).symm⟩
   ·exact ⟨[],(m_ _).symm⟩
theorem auO:∀(l:aa Rc) (h h':Hd),fM qb h l=some h'->∃t,lF h'=lF h++t
 | [],h,h',e=>by
  simp only [fM,aN] at e;rw [e];exact ⟨[],(m_ _).symm⟩
 | y::l,h,h',e=>by
  rw [fM] at e;cases hy:qb h y with
  | none=>rw [hy] at e;cases e
  | some h1=>
   rw [hy] at e;obtain ⟨t,ht⟩:=azW hy;obtain ⟨u,hu⟩:=auO l h1 h' e;exact ⟨t++u,by rw [hu,ht,lK]⟩
theorem auP {S α:Type} (st:S->α->ah S):∀(l:aa α) (s s':S) (k:Nat),fM st s l=some s'->∃s1,fM st s (l.take k)=some s1/\fM st s1 (l.drop k)=some s'
 | l,s,s',0,e=>⟨s,rfl,e⟩
 | [],s,s',k+1,e=>⟨s,rfl,e⟩
 | y::l,s,s',k+1,e=>by
  rw [fM] at e;cases hy:st s y with
  | none=>rw [hy] at e;cases e
  | some s2=>
   rw [hy] at e;obtain ⟨s1,e1,e2⟩:=auP st l s2 s' k e;exact ⟨s1,by rw [zV,fM,hy];exact e1,e2⟩
theorem auQ {n K:Nat} {rs:aa Rc} {h:Hd} (hn:2<=n/\n<=12) (hK:1<=K/\K<=3) (e:fM qb (hdN n K) rs=some h):hfF (n:Int) (K:Int) rs=fl h true:=by
 have:Nl (n:Int) (K:Int) rs=some h:=by
  unfold Nl;rw [if_pos (by rw [aV.2 (by omega),aV.2 (by omega)];rfl),il,il];exact e
 unfold hfF;rw [this]
theorem Xm (a:aa Int) (ha:a.length<=1048576):∃(n:Int) (l:aa Rc),vG a=some (((1:Int),n,l),())/\RcO l:=by
 have hm:maxLen=9223372036854775807:=by decide
 show ∃n l,vE BIG _=_/\_;rw [WS];obtain ⟨c,k0,hc⟩:=QN a ha;obtain ⟨n,K,h,ss,g,k,hr,own,c1,k1,o1,hn,hK,hRh,VJ,hP,hF⟩:=VB c hc a ha 1;rw [if_pos (by omega)] at k1;rw [k0,af];simp only;rw [k1,af];simp only;obtain ⟨hl,hB⟩:=VJ;have hO:RcO own:=⟨by omega,fun y hy=>by have:=(hB y hy).2.2;omega⟩
 have hx:∃(c2:Bh) (b:Bool),(bif decide ((0:Int)<(own.length:Int)) then Option.bind (xK (c1,(5:Int))) fun r2=>some (r2.2,r2.1) else some (c1,false):ah (Bh × Bool))=some (c2,b)/\j_ c2/\(b=true->0<own.length):=by
  by_cases h4:(0:Int)<(own.length:Int)
  ·rw [ak h4,ai];obtain ⟨b,c',q1,q2⟩:=aqG c1 5 o1 (by omega);rw [q1,af];exact ⟨_,_,rfl,q2,fun _=>by omega⟩
  ·rw [az h4,ax];exact ⟨_,_,rfl,o1,fun h=>by cases h⟩
 obtain ⟨c2,b,hx,o2,hb⟩:=hx;rw [hx,af];simp only;cases b with
 | false=>
  rw [ax,af];exact ⟨_,_,rfl,hO⟩
 | true=>
  have hp:=hb rfl;obtain ⟨r,c3,k3,o3,a3,b3,_⟩:=jg c2 (own.length:Int) o2 (by omega);have b3:=b3 (by omega);have hw:IntKind.wrap .i64 (r+1)=r+1:=wr (by omega) (by omega);rw [ai,k3,af];simp only [hw];have t1:(List.take (Int.toNat r-0) (List.drop 0 own)).length<=40:=by rw [iy,sN];omega
  have t2:(List.take (own.length-Int.toNat (r+1)) (List.drop (Int.toNat (r+1)) own)).length<=40:=by rw [iy,sN];omega
  rw [ak a3,ai,ak (show 0<=Int.toNat r/\Int.toNat r<=own.length from ⟨by omega,by omega⟩),ai,ak (show 0+(List.take (Int.toNat r-0) (List.drop 0 own)).length<=4294967296 by omega),ai,ak (show (0:Int)<=r+1 by omega),ai,ak (show Int.toNat (r+1)<=own.length/\own.length<=own.length from ⟨by omega,eX _⟩),ai,ak (show (([]:aa Rc)++List.take (Int.toNat r-0) (List.drop 0 own)).length+(List.take (own.length-Int.toNat (r+1)) (List.drop (Int.toNat (r+1)) own)).length<=4294967296 by rw [gQ];omega),ai,af];refine ⟨_,_,rfl,by rw [gQ,dP];omega,fun y hy => ?_⟩;rw [gQ] at hy;rcases bG.1 hy with hy|hy
  ·exact hO.2 y (List.mem_of_mem_drop (List.mem_of_mem_take hy))
  ·exact hO.2 y (List.mem_of_mem_drop (List.mem_of_mem_take hy))
theorem azX (a b:Int) (rs:aa Rc) (hz:RcO rs):(sfF (sfO a b rs)).2.2.1.length<=1048576:=by
 cases hO:sfO a b rs with
 | none=>simp [sfF]
 | some S=>
  unfold sfO at hO;split at hO
  ·have:=ajN rs _ S hz.2 ⟨by simp,by simp,by simp⟩ hO;exact this.1
  ·cases hO
theorem acK (a:aa Int) (h:a.length<=maxLen):QG a=some (true,()):=by
 have hm:maxLen=9223372036854775807:=by decide
 show EZ BIG _=_;rw [ajd,aBr,af];by_cases ha:a.length<=1048576;case neg=>rw [ak (by omega)];rfl
 rw [az (by omega),ax];obtain ⟨c,k0,hc⟩:=QN a ha;obtain ⟨n,K,hd,ss,g,k,hr,own,c1,k1,o1,hn,hK,hRh,VJ,hP,hF⟩:=VB c hc a ha 0;rw [if_neg (by omega)] at k1;have e1:zo a=some (((n:Int),(K:Int),hr),()):=by
  show zn BIG _=_;rw [acj,k0,af];simp only;rw [k1,af]
 obtain ⟨hl,hB⟩:=hRh;have hS:∀l:aa Rc,(∀y,y∈l->y∈hr)->l.length<=40->RcS l:=fun l hs hl=>⟨by omega,fun y hy=>by
  have:=hB y (hs y hy)
  exact ⟨by have:=this.1;omega,by have:=this.2.1;omega⟩⟩
 have wi:=Vx (n:Int) (K:Int) hr (hS hr (fun _ h=>h) hl);have ws:=alW (n:Int) (K:Int) hr (hS hr (fun _ h=>h) hl);rw [auQ hn hK hF] at wi ws;obtain ⟨p,k2,hp,Q6⟩:=af0 a ha;have hp0:0<p.length:=by omega
 have hpb:=Q6 _ (nH hp0);have b0:∀{β:Type} (F:Nat->ah β),bnd p.length (0:Int) F=F 0:=fun F=>aF (i:=0) hp0
 have hz:=hP.sz;have s1:qz (hd.2.2.2.2.2.2.2.2.2.2.2.2.2.2,hd.2.2.2.2.2.2.2.2.2.2.2.2.2.2)=some (true,()):=VA _ (by have:=hz.f;omega);have s2:=ajj hd.2.2.1 hd.2.2.1 (by have:=hz.b;omega);have s3:=alT hd.2.1 hd.2.1 (by have:=hz.a;omega);rw [ak rfl] at s2 s3;have ok1:=hP.okBoth.1;rw [e1,af];simp only;rw [wi,af,ws,af];simp only [fl,bB,ax,s1,s2,s3,af];rw [ok1];simp only [af,bB,ax];rw [k2,af];simp only;rw [b0,aR hp0,af,wr (n:=(hr.length:Int)+1) (by omega) (by omega),az (show ¬((hr.length:Int)+1=0) by omega),ax];have hv1:=Int.tmod_nonneg ((hr.length:Int)+1) hpb.1;have hv2:=Int.tmod_lt_of_pos p[0] (show (0:Int)<(hr.length:Int)+1 by omega);generalize Int.tmod p[0] ((hr.length:Int)+1)=v at hv1 hv2 ⊢;obtain ⟨h1,f1,f2⟩:=auP qb hr (hdN n K) hd (Int.toNat v) hF;obtain ⟨t,ht⟩:=auO _ _ _ f2;have wi2:=Vx (n:Int) (K:Int) (hr.take (Int.toNat v)) (hS _ (fun y hy=>List.mem_of_mem_take hy) (by rw [iy];omega));rw [auQ hn hK f1] at wi2;have hsl:(lF h1).length<=(lF hd).length:=by rw [ht,dP];omega
 have aF1:h1.2.2.2.2.2.2.2.2.2.2.2.2.2.2=lF h1:=rfl;have aF2:hd.2.2.2.2.2.2.2.2.2.2.2.2.2.2=lF hd:=rfl;have aHY:(lF hd).length<=81:=hz.f;have s4:qz (lF h1,List.take ((Int.toNat ((lF h1).length:Int))-0) (List.drop 0 (lF hd)))=some (true,()):=by
  rw [il,t_,uI,ht,List.take_left];exact VA _ (by omega)
 rw [ak hv1,ai,ak (show 0<=Int.toNat v/\Int.toNat v<=hr.length from ⟨by omega,by omega⟩),ai,t_,uI,wi2,af];simp only [fl,bB,ax,aF1,aF2];rw [az (show ¬((lF hd).length:Int)<((lF h1).length:Int) by omega),ax,ak (show (0:Int)<=((lF h1).length:Int) by omega),ai,ak (show 0<=(Int.toNat ((lF h1).length:Int))/\(Int.toNat ((lF h1).length:Int))<=(lF hd).length from ⟨by omega,by omega⟩),ai,s4];simp only [af,bB,ax];obtain ⟨m,l,k3,hO⟩:=Xm a ha;have hw:=azX 1 m l hO;rw [k3,af];simp only;rw [ajO 1 m l hO,af,ajP 1 m l hO,af];simp only [beq_self_eq_true,ai];rw [aq2 ((sfF (sfO 1 m l)).2.1,(sfF (sfO 1 m l)).2.2.1) hw];rfl
end Go.Fw
