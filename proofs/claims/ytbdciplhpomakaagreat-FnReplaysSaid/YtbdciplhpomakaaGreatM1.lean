/- What the given functions come to. No conditions. -/
import Derived.Test.YtbdciplhpomakaaGreatM0
set_option linter.unusedSectionVars false
namespace Go.Fw
structure Fo (n:Nat) (es:List Ed) (pa:Int->Int->Prop) (rk:Int->Nat):Prop where
 rg:∀{a b},pa a b->(0<=a/\a<n)/\(0<=b/\b<n)
 ad:∀u v,((if v<u then (v,u) else (u,v))∈es)↔(pa u v\/pa v u)
 un:∀{a a' b},pa a b->pa a' b->a=a'
 up:∀{a b},pa a b->rk a<rk b
section
variable {n:Nat} {es:aa Ed} {pa:Int->Int->Prop} {rk:Int->Nat} (F:Fo n es pa rk)
include F
def Nb (pa:Int->Int->Prop) (v fr u:Int):Prop:=u≠fr/\(pa u v\/pa v u)
omit F in
theorem arc {l:aa Bool} {i j:Nat} (hi:i<l.length):(l.set i true).getD j false=true↔l.getD j false=true\/j=i:=by
 by_cases h:i=j
 ·subst h;rw [gD (XU hi)];simp
 ·simp only [dw,List.getElem?_set_ne h];constructor
  ·exact .inl
  ·rintro (h'|h')
   ·exact h'
   ·exact absurd h'.symm h
end
structure HdS (h:Hd):Prop where
 a:h.2.1.length<=12
 b:h.2.2.1.length<=132
 c:h.2.2.2.1.length<=3/\∀y,y∈h.2.2.2.1->y.length<=12
 d:h.2.2.2.2.1.length<=3
 e:h.2.2.2.2.2.2.2.2.2.2.2.2.1.length<=132
 f:h.2.2.2.2.2.2.2.2.2.2.2.2.2.2.length<=81
def zH:Hd:=(0,[],[],[],[],0,0,0,0,0,0,0,[],0,[])
noncomputable def tkU (h:Hd) (i op a b:Int):NE:=VR h.1 h.2.1 h.2.2.1 h.2.2.2.1 h.2.2.2.2.1 h.2.2.2.2.2.1 h.2.2.2.2.2.2.1 h.2.2.2.2.2.2.2.1 h.2.2.2.2.2.2.2.2.1 h.2.2.2.2.2.2.2.2.2.1 h.2.2.2.2.2.2.2.2.2.2.1 h.2.2.2.2.2.2.2.2.2.2.2.1 h.2.2.2.2.2.2.2.2.2.2.2.2.1 h.2.2.2.2.2.2.2.2.2.2.2.2.2.1 h.2.2.2.2.2.2.2.2.2.2.2.2.2.2 i op a b
noncomputable def heU (h:Hd) (sh:Int) (y:An):NE:=VS h.1 h.2.1 h.2.2.1 h.2.2.2.1 h.2.2.2.2.1 h.2.2.2.2.2.1 h.2.2.2.2.2.2.1 h.2.2.2.2.2.2.2.1 h.2.2.2.2.2.2.2.2.1 h.2.2.2.2.2.2.2.2.2.1 h.2.2.2.2.2.2.2.2.2.2.1 h.2.2.2.2.2.2.2.2.2.2.2.1 h.2.2.2.2.2.2.2.2.2.2.2.2.1 h.2.2.2.2.2.2.2.2.2.2.2.2.2.1 h.2.2.2.2.2.2.2.2.2.2.2.2.2.2 sh y
noncomputable def Bt (h:Hd) (y:Rc):Int × Hd:=
 if y.1=1 then G6 (tkU h y.2.1 y.2.2.1 y.2.2.2.1 y.2.2.2.2.1)
 else if y.1=2 then G6 (heU h y.2.2.2.2.2.1 (y.2.2.2.2.2.2.1,y.2.2.2.2.2.2.2.1,y.2.2.2.2.2.2.2.2.1,y.2.2.2.2.2.2.2.2.2.1)) else (0,h)
noncomputable def ql (h:Hd) (y:Rc):ah Hd:=if (Bt h y).1=0 then none else some (Bt h y).2
def fl (h:Hd) (b:Bool):Int × aa Int × aa (Int × Int) × aa (aa Int) × aa Int × Int × Int × Int × Int × Int × Int × Int × aa (Int × Int) × Int × aa (Int × Int × Int × Int × Int × Int) × Bool:=(h.1,h.2.1,h.2.2.1,h.2.2.2.1,h.2.2.2.2.1,h.2.2.2.2.2.1,h.2.2.2.2.2.2.1,h.2.2.2.2.2.2.2.1,h.2.2.2.2.2.2.2.2.1,h.2.2.2.2.2.2.2.2.2.1,h.2.2.2.2.2.2.2.2.2.2.1,h.2.2.2.2.2.2.2.2.2.2.2.1,h.2.2.2.2.2.2.2.2.2.2.2.2.1,h.2.2.2.2.2.2.2.2.2.2.2.2.2.1,h.2.2.2.2.2.2.2.2.2.2.2.2.2.2,b)
noncomputable def NF (n k:Int) (rs:aa Rc):ah Hd:=if (aY n 1 12&&aY k 1 3)=true then fM ql (hdN n.toNat k.toNat) rs else none
noncomputable def hfF (n k:Int) (rs:aa Rc):Int × aa Int × aa (Int × Int) × aa (aa Int) × aa Int × Int × Int × Int × Int × Int × Int × Int × aa (Int × Int) × Int × aa (Int × Int × Int × Int × Int × Int) × Bool:=match NF n k rs with
 | some h=>fl h true
 | none=>fl zH false
theorem aBZ {n:Int} {l:aa Int} (h:sH n l=true):(l.length:Int)=n:=by
 unfold sH at h;split at h
 ·assumption
 ·cases h
theorem HdF.rows {x0:Int} {x1:aa Int} {x2:aa Ed} {x3:aa (aa Int)} {x4:aa Int} {x14:aa Sd} (h:HdF x0 x1 x2 x3 x4 x14):∀y,y∈x3->y.length<=12:=by
 intro y hy;obtain ⟨i,hi,rfl⟩:=wJ hy;have h1:=(h.o3 i hi).1;rw [gD (aT hi)] at h1;have:=aBZ h1;have:=h.n;omega
theorem auN (n k:Int) (h:(aY n 1 12&&aY k 1 3)=true):HdS (hdN n.toNat k.toNat):=by
 rw [aU,aW,aW] at h;refine ⟨by show (Jd _ _).length<=12;rw [ajS];omega,by show ([]:aa Ed).length<=132;simp,⟨by show (List.replicate _ _).length<=3;rw [z_];omega,fun y hy => ?_⟩,by show (List.replicate _ _).length<=3;rw [z_];omega,by show ([]:aa Ed).length<=132;simp,by show ([]:aa Sd).length<=81;simp⟩;have qz:y∈List.replicate k.toNat (qa n.toNat):=hy;rw [List.mem_replicate] at qz;rw [qz.2];simp only [qa,dY,sU];omega
theorem auO {h h':Hd} {y:Rc} (hs:HdS h) (e:ql h y=some h'):HdS h':=by
 obtain ⟨x0,x1,x2,x3,x4,x5,x6,x7,x8,x9,x10,x11,x12,x13,x14⟩:=h;unfold ql at e;split at e;case isTrue=>cases e
 case isFalse aZ=>
 cases e;unfold Bt at aZ ⊢;split;case isTrue h1=>
  rw [if_pos h1] at aZ;unfold tkU VR at aZ ⊢;split;case isFalse eF=>rw [if_neg eF] at aZ;exact absurd rfl aZ
  case isTrue aV=>
  obtain ⟨hF,_⟩:=SG aV;have ko:=j_ hF.cuts;have ui:=hF.said;have hn:=hF.n;have ho:=hF.own;have hk:=hF.k;have hnu:=hF.nums;obtain ⟨c,t1,t2,t3,t4,t5,t6,t7,t8,t9,s,m,er,l1,l2,l3⟩:=az_ x0 x1 x2 x3 x4 x14 y.2.1 y.2.2.1 y.2.2.2.1 y.2.2.2.2.1;rw [er];exact ⟨by show x1.length<=12;simp only at ho hn;omega,by show c.length<=132;simp only at ko;omega,⟨by show x3.length<=3;exact hk.2,hF.rows⟩,by show x4.length<=3;simp only at hnu hk;omega,by show t8.length<=132;omega,by show s.length<=81;simp only at ui;omega⟩
 case isFalse h1=>
 rw [if_neg h1] at aZ;split;case isFalse h2=>rw [if_neg h2] at aZ;exact absurd rfl aZ
 case isTrue h2=>
 rw [if_pos h2] at aZ;unfold heU VS at aZ ⊢;split;case isFalse eF=>rw [if_neg eF] at aZ;exact absurd rfl aZ
 case isTrue aV=>
 obtain ⟨hF,hA,yz,oH,hr⟩:=acX aV;obtain ⟨a1,a2,a3,a4,a5,a6,a7⟩:=acT hA;have ko:=j_ hF.cuts;have Cn:=j_ a5;have ui:=hF.said;have hn:=hF.n;have ho:=hF.own;have hk:=hF.k;have hnu:=hF.nums;simp only at ko Cn ui hn ho hk hnu a6;obtain ⟨w,c,t1,t2,t3,t4,t5,t6,t7,t8,t9,s,m,er,l1,l2,l3,l4⟩:=aAc (x0:=x0) (x1:=x1) (x2:=x2) (x3:=x3.set (y.2.2.2.2.2.1-1).toNat y.2.2.2.2.2.2.2.2.2.1) (x4:=x4.set (y.2.2.2.2.2.1-1).toNat y.2.2.2.2.2.2.1) (x14:=x14) x5 x6 x7 x8 y.2.2.2.2.2.2.2.2.1 x11 y.2.2.2.2.2.2.2.1 (by omega) (by omega) (by omega) (by omega);simp only;rw [er];refine ⟨l1,l2,⟨by show (x3.set _ _).length<=3;rw [lX];exact hk.2,fun z hz => ?_⟩,by show (x4.set _ _).length<=3;rw [lX];omega,l3,l4⟩;rcases List.mem_or_eq_of_mem_set hz with hz|rfl
 ·exact hF.rows z hz
 ·omega
theorem HdS.bd {h:Hd} (hs:HdS h):h.2.1.length<=1048576/\h.2.2.1.length<=1048576/\(h.2.2.2.1.length<=1048576/\∀y,y∈h.2.2.2.1->y.length<=1048576)/\h.2.2.2.2.1.length<=1048576/\h.2.2.2.2.2.2.2.2.2.2.2.2.1.length<=1048576/\h.2.2.2.2.2.2.2.2.2.2.2.2.2.2.length<=1048576:=by
 obtain ⟨a,b,c,d,e,f⟩:=hs;exact ⟨by omega,by omega,⟨by omega,fun y hy=>by have:=c.2 y hy;omega⟩,by omega,by omega,by omega⟩
theorem aAf {h:Hd} (hs:HdS h) (i op a b:Int):Dq (h,(i,op,a,b))=some (tkU h i op a b,()):=by
 obtain ⟨b1,b2,b3,b4,b5,b6⟩:=hs.bd;exact az8 _ _ _ _ _ _ _ _ _ _ _ _ _ _ _ i op a b b1 b2 b3 b4 b5 b6
theorem aoj {h:Hd} (hs:HdS h) (i op a b:Int):Dp (h,(i,op,a,b))=some (tkU h i op a b,()):=by
 obtain ⟨b1,b2,b3,b4,b5,b6⟩:=hs.bd;exact az9 _ _ _ _ _ _ _ _ _ _ _ _ _ _ _ i op a b b1 b2 b3 b4 b5 b6
theorem aAg {h:Hd} (hs:HdS h) (sh:Int) (y:An) (h2:y.2.2.1.length<=1048576) (h3:y.2.2.2.length<=1048576):Dr (h,sh,y)=some (heU h sh y,()):=by
 obtain ⟨b1,b2,b3,b4,b5,b6⟩:=hs.bd;exact aAd _ _ _ _ _ _ _ _ _ _ _ _ _ _ _ sh _ _ _ _ b1 b2 b3 b4 b5 b6 h2 h3
theorem aok {h:Hd} (hs:HdS h) (sh:Int) (y:An) (h2:y.2.2.1.length<=1048576) (h3:y.2.2.2.length<=1048576):zz (h,sh,y)=some (heU h sh y,()):=by
 obtain ⟨b1,b2,b3,b4,b5,b6⟩:=hs.bd;exact aAe _ _ _ _ _ _ _ _ _ _ _ _ _ _ _ sh _ _ _ _ b1 b2 b3 b4 b5 b6 h2 h3
def RcS (rs:aa Rc):Prop:=rs.length<=1048576/\∀y,y∈rs->y.2.2.2.2.2.2.2.2.1.length<=1048576/\y.2.2.2.2.2.2.2.2.2.1.length<=1048576
theorem VU (n k : Int) (rs : aa Rc) (hz : RcS rs) : Aw (n, k, rs) = some (hfF n k rs, ()) := by
  have hm : maxLen = 9223372036854775807 := by decide
  show IV BIG _ = _;rw [alT];obtain ⟨r, hr, h1, _⟩ := abh n k;rw [h1, ae];unfold hfF NF;cases hc : (aY n 1 12 && aY k 1 3) with
  | false =>
    rw [hc] at hr;simp only [iP, if_false] at hr ⊢;subst hr;rfl
  | true =>
    rw [hc] at hr;simp only [if_true] at hr ⊢;subst hr;have hL := ayr (B := Hd × Bool) (F := fun self2 (x1 : Hd × Hd × Int) =>
      bif decide (x1.2.2 < (rs.length : Int)) then
       Option.bind (bnd rs.length x1.2.2 fun n3 =>
        Option.bind rs[n3]? fun y =>
        Option.bind (bif decide (y.1 = (1 : Int)) then
        Option.bind (Dq (x1.1, (y.2.1, y.2.2.1, y.2.2.2.1, y.2.2.2.2.1))) fun r5 =>
        some ((r5.1.1, r5.1.2.1, r5.1.2.2.1, r5.1.2.2.2.1, r5.1.2.2.2.2.1, r5.1.2.2.2.2.2.1, r5.1.2.2.2.2.2.2.1, r5.1.2.2.2.2.2.2.2.1, r5.1.2.2.2.2.2.2.2.2.1, r5.1.2.2.2.2.2.2.2.2.2.1, r5.1.2.2.2.2.2.2.2.2.2.2.1, r5.1.2.2.2.2.2.2.2.2.2.2.2.1, r5.1.2.2.2.2.2.2.2.2.2.2.2.2.1, r5.1.2.2.2.2.2.2.2.2.2.2.2.2.2.1, r5.1.2.2.2.2.2.2.2.2.2.2.2.2.2.2.1), r5.1.2.2.2.2.2.2.2.2.2.2.2.2.2.2.2)
       else bif decide (y.1 = (2 : Int)) then
        Option.bind (Dr (x1.1, y.2.2.2.2.2.1, (y.2.2.2.2.2.2.1, y.2.2.2.2.2.2.2.1, y.2.2.2.2.2.2.2.2.1, y.2.2.2.2.2.2.2.2.2.1))) fun r6 =>
        some ((r6.1.1, r6.1.2.1, r6.1.2.2.1, r6.1.2.2.2.1, r6.1.2.2.2.2.1, r6.1.2.2.2.2.2.1, r6.1.2.2.2.2.2.2.1, r6.1.2.2.2.2.2.2.2.1, r6.1.2.2.2.2.2.2.2.2.1, r6.1.2.2.2.2.2.2.2.2.2.1, r6.1.2.2.2.2.2.2.2.2.2.2.1, r6.1.2.2.2.2.2.2.2.2.2.2.2.1, r6.1.2.2.2.2.2.2.2.2.2.2.2.2.1, r6.1.2.2.2.2.2.2.2.2.2.2.2.2.2.1, r6.1.2.2.2.2.2.2.2.2.2.2.2.2.2.2.1), r6.1.2.2.2.2.2.2.2.2.2.2.2.2.2.2.2)
       else some (x1.1, (0 : Int)) : ah (Hd × Int)) fun x7 =>
        bif decide (x7.2 = (0 : Int)) then
         some (Sum.inr (zH, false))
        else some (Sum.inl (x7.1, x1.2.1)) : ah ((Hd × Hd) ⊕ (Hd × Bool))) fun y => match y with
       | .inl x8 =>
        self2 (x8.1, x8.2, IntKind.wrap .i64 (x1.2.2 + (1 : Int)))
       | .inr x8 =>
        some (Sum.inr (x8.1, x8.2))
      else some (Sum.inl (x1.1, x1.2.1))) rs (by have := hz.1; omega) (mk := fun (s : Hd) (j : Int) => ((s, zH, j) : Hd × Hd × Int)) (I := fun _ s => HdS s) (st := ql) (R := fun s => ((s, zH) : Hd × Hd)) (b := ((zH, false) : Hd × Bool)) (s0 := hdN n.toNat k.toNat) (auN n k hc) (fun i s s' y hy hs gU => auO hs gU) (fun self s i y hy hs => ?_) (fun self s hs => by simp)
    · refine (congrArg (fun o => Option.bind o _) hL).trans ?_
      cases fM ql (hdN n.toNat k.toNat) rs with
      | none => rfl
      | some h => rfl
    · have hi := (bf hy).1
      have hyb := hz.2 y (eZ hy)
      have bP := hz.1
      simp only [show ((i : Int) < (rs.length : Int)) from by omega, decide_true, ai]
      rw [aH hi, hy, ae]
      have key : (bif decide (y.1 = (1 : Int)) then
        Option.bind (Dq (s, (y.2.1, y.2.2.1, y.2.2.2.1, y.2.2.2.2.1))) fun r5 =>
        some ((r5.1.1, r5.1.2.1, r5.1.2.2.1, r5.1.2.2.2.1, r5.1.2.2.2.2.1, r5.1.2.2.2.2.2.1, r5.1.2.2.2.2.2.2.1, r5.1.2.2.2.2.2.2.2.1, r5.1.2.2.2.2.2.2.2.2.1, r5.1.2.2.2.2.2.2.2.2.2.1, r5.1.2.2.2.2.2.2.2.2.2.2.1, r5.1.2.2.2.2.2.2.2.2.2.2.2.1, r5.1.2.2.2.2.2.2.2.2.2.2.2.2.1, r5.1.2.2.2.2.2.2.2.2.2.2.2.2.2.1, r5.1.2.2.2.2.2.2.2.2.2.2.2.2.2.2.1), r5.1.2.2.2.2.2.2.2.2.2.2.2.2.2.2.2)
       else bif decide (y.1 = (2 : Int)) then
        Option.bind (Dr (s, y.2.2.2.2.2.1, (y.2.2.2.2.2.2.1, y.2.2.2.2.2.2.2.1, y.2.2.2.2.2.2.2.2.1, y.2.2.2.2.2.2.2.2.2.1))) fun r6 =>
        some ((r6.1.1, r6.1.2.1, r6.1.2.2.1, r6.1.2.2.2.1, r6.1.2.2.2.2.1, r6.1.2.2.2.2.2.1, r6.1.2.2.2.2.2.2.1, r6.1.2.2.2.2.2.2.2.1, r6.1.2.2.2.2.2.2.2.2.1, r6.1.2.2.2.2.2.2.2.2.2.1, r6.1.2.2.2.2.2.2.2.2.2.2.1, r6.1.2.2.2.2.2.2.2.2.2.2.2.1, r6.1.2.2.2.2.2.2.2.2.2.2.2.2.1, r6.1.2.2.2.2.2.2.2.2.2.2.2.2.2.1, r6.1.2.2.2.2.2.2.2.2.2.2.2.2.2.2.1), r6.1.2.2.2.2.2.2.2.2.2.2.2.2.2.2.2)
       else some (s, (0 : Int)) : ah (Hd × Int)) = some ((Bt s y).2, (Bt s y).1) := by
        unfold Bt;by_cases c1 : y.1 = 1
        · rw [ak c1, ai, if_pos c1, aAf hs, ae]
          rfl
        · rw [aA c1, ax, if_neg c1]
          by_cases c2 : y.1 = 2
          · rw [ak c2, ai, if_pos c2, aAg hs _ _ hyb.1 hyb.2, ae]
            rfl
          · rw [aA c2, ax, if_neg c2]
      rw [key, ae]
      unfold ql
      by_cases c0 : (Bt s y).1 = 0
      · simp only [ak c0, ai, if_pos c0, ae]
      · simp only [aA c0, ax, if_neg c0, ae]
        rw [bV (by omega)]
theorem acY {S α:Type} (st:S->α->ah S):∀(a b:aa α) (s:S),fM st s (a++b)=(fM st s a).bind fun s'=>fM st s' b
 | [],b,s=>rfl
 | x::a,b,s=>by
  rw [ny,fM,fM];cases st s x with
  | none=>rfl
  | some s'=>simp only [ae,acY st a b]
theorem amk (n k : Int) (rs : aa Rc) (hz : RcS rs) : IY (n, k, rs) = some (hfF n k rs, ()) := by
  have hm : maxLen = 9223372036854775807 := by decide
  show IW BIG _ = _;rw [alV];obtain ⟨r, hr, _, h1⟩ := abh n k;rw [h1, ae];have akI : ∀ b : Hd × Bool, (b.2 = true → NF n k rs = some b.1 ∧ HdS b.1) ∧ (b.2 = false → NF n k rs = none) → (bif !b.2 then
   some (((0 : Int), [], [], [], [], (0 : Int), (0 : Int), (0 : Int), (0 : Int), (0 : Int), (0 : Int), (0 : Int), [], (0 : Int), [], false), ())
  else Option.bind (og b.1) fun r17 => some (fl r17.1 true, ())) = some (hfF n k rs, ()) := by
    intro b ⟨V3, wH⟩;obtain ⟨h, ok⟩ := b;unfold hfF;cases ok with
    | false => rw [wH rfl]; rfl
    | true =>
      obtain ⟨e1, e2⟩ := V3 rfl;obtain ⟨b1, b2, b3, b4, b5, b6⟩ := e2.bd;rw [e1];have hcp : og h = some (h, ()) := De _ _ _ _ _ _ _ _ _ _ _ _ _ _ _ b1 b2 b3 b4 b5 b6;simp only [bC, ax];rw [hcp];rfl
  refine dW (P := fun o => o = some (hfF n k rs, ())) (fun (x : Hd × Bool × Int) => ∃ i : Nat, x.2.2 = (i : Int) ∧ i ≤ rs.length ∧ ((x.2.1 = true ∧ HdS x.1 ∧ (aY n 1 12 && aY k 1 3) = true ∧ fM ql (hdN n.toNat k.toNat) (rs.take i) = some x.1) ∨ (x.2.1 = false ∧ NF n k rs = none))) (fun x => rs.length - x.2.2.toNat) (fun _ (b : Hd × Bool) => (b.2 = true → NF n k rs = some b.1 ∧ HdS b.1) ∧ (b.2 = false → NF n k rs = none)) (by have := hz.1; simp [BIG]; omega) ⟨0, rfl, by omega, ?_⟩ (fun self x hx Di => ?_) (fun b hb => akI b hb)
  · subst hr
    cases hc : (aY n 1 12 && aY k 1 3) with
    | true => exact .inl ⟨rfl, auN n k hc, rfl, rfl⟩
    | false =>
      refine .inr ⟨rfl, ?_⟩;unfold NF;rw [hc]; rfl
  · obtain ⟨s, ok, j⟩ := x
    obtain ⟨i, g1, g2, g3⟩ := hx
    simp only at g1 g2 g3 Di ⊢
    subst g1
    have bP := hz.1
    by_cases hi : i < rs.length
    · simp only [show ((i : Int) < (rs.length : Int)) from by omega, decide_true, ai, ae]
      rcases g3 with ⟨rfl, hs, hc, hf⟩ | ⟨rfl, eF⟩
      · have hyb := hz.2 rs[i] (nM hi)
        have hy := aT hi
        have key : (bnd rs.length (i : Int) fun n4 =>
       Option.bind rs[n4]? fun y5 =>
       bif decide (y5.1 = (1 : Int)) then
        bnd rs.length (i : Int) fun n6 =>
        Option.bind rs[n6]? fun y7 =>
        Option.bind (Dp (s, (y7.2.1, y7.2.2.1, y7.2.2.2.1, y7.2.2.2.2.1))) fun r8 =>
        some ((r8.1.1, r8.1.2.1, r8.1.2.2.1, r8.1.2.2.2.1, r8.1.2.2.2.2.1, r8.1.2.2.2.2.2.1, r8.1.2.2.2.2.2.2.1, r8.1.2.2.2.2.2.2.2.1, r8.1.2.2.2.2.2.2.2.2.1, r8.1.2.2.2.2.2.2.2.2.2.1, r8.1.2.2.2.2.2.2.2.2.2.2.1, r8.1.2.2.2.2.2.2.2.2.2.2.2.1, r8.1.2.2.2.2.2.2.2.2.2.2.2.2.1, r8.1.2.2.2.2.2.2.2.2.2.2.2.2.2.1, r8.1.2.2.2.2.2.2.2.2.2.2.2.2.2.2.1), r8.1.2.2.2.2.2.2.2.2.2.2.2.2.2.2.2)
       else bif decide (y5.1 = (2 : Int)) then
        bnd rs.length (i : Int) fun n9 =>
        Option.bind rs[n9]? fun y10 =>
        bnd rs.length (i : Int) fun n11 =>
        Option.bind rs[n11]? fun y12 =>
        Option.bind (zz (s, y10.2.2.2.2.2.1, (y12.2.2.2.2.2.2.1, y12.2.2.2.2.2.2.2.1, y12.2.2.2.2.2.2.2.2.1, y12.2.2.2.2.2.2.2.2.2.1))) fun r13 =>
        some ((r13.1.1, r13.1.2.1, r13.1.2.2.1, r13.1.2.2.2.1, r13.1.2.2.2.2.1, r13.1.2.2.2.2.2.1, r13.1.2.2.2.2.2.2.1, r13.1.2.2.2.2.2.2.2.1, r13.1.2.2.2.2.2.2.2.2.1, r13.1.2.2.2.2.2.2.2.2.2.1, r13.1.2.2.2.2.2.2.2.2.2.2.1, r13.1.2.2.2.2.2.2.2.2.2.2.2.1, r13.1.2.2.2.2.2.2.2.2.2.2.2.2.1, r13.1.2.2.2.2.2.2.2.2.2.2.2.2.2.1, r13.1.2.2.2.2.2.2.2.2.2.2.2.2.2.2.1), r13.1.2.2.2.2.2.2.2.2.2.2.2.2.2.2.2)
       else some (s, (0 : Int)) : ah (Hd × Int)) = some ((Bt s rs[i]).2, (Bt s rs[i]).1) := by
          have bi : ∀ {B : Type} {k : Nat → ah B}, bnd rs.length (i : Int) k = k i := fun {B k} => aH hi
          simp only [bi, hy, ae];generalize rs[i] = y at hyb;unfold Bt;by_cases c1 : y.1 = 1
          · rw [ak c1, ai, if_pos c1, aoj hs, ae]
            rfl
          · rw [aA c1, ax, if_neg c1]
            by_cases c2 : y.1 = 2
            · rw [ak c2, ai, if_pos c2, aok hs _ _ hyb.1 hyb.2, ae]
              rfl
            · rw [aA c2, ax, if_neg c2]
        have NM : rs.take (i + 1) = rs.take i ++ [rs[i]] := rO hi
        simp only [ai]
        rw [key]
        simp only [ae]
        rw [bV (by omega)]
        by_cases c0 : (Bt s rs[i]).1 = 0
        · rw [ak c0]
          refine Di _ ⟨i + 1, rfl, hi, .inr ⟨rfl, ?_⟩⟩ (by simp; omega)
          unfold NF
          rw [hc, if_pos rfl]
          have : rs = rs.take i ++ (rs[i] :: rs.drop (i + 1)) := by
            rw [← u6 hi, Kr]
          rw [this, acY, hf, ae, fM]
          unfold ql
          rw [if_pos c0]; rfl
        · rw [aA c0]
          have gU : ql s rs[i] = some (Bt s rs[i]).2 := by unfold ql; rw [if_neg c0]
          refine Di _ ⟨i + 1, rfl, hi, .inl ⟨rfl, auO hs gU, hc, ?_⟩⟩ (by simp; omega)
          rw [NM, acY, hf, ae, fM, gU]
          rfl
      · simp only [ax]
        exact ⟨_, rfl, (fun h => by cases h), fun _ => eF⟩
    · have NQ : i = rs.length := by omega
      subst NQ
      simp only [show ¬ ((rs.length : Int) < (rs.length : Int)) from by omega, decide_false, ax, ae]
      refine ⟨_, rfl, ?_⟩
      rcases g3 with ⟨rfl, hs, hc, hf⟩ | ⟨rfl, eF⟩
      · rw [nN] at hf
        refine ⟨fun _ => ⟨?_, hs⟩, (fun h => by cases h)⟩
        unfold NF
        rw [hc, if_pos rfl, hf]
      · exact ⟨(fun h => by cases h), fun _ => eF⟩
def FT.rts:FT->aa Int
 | .nil=>[]
 | .nd v c s=>v::s.rts
theorem acZ (g:FT):∀f:FT,(f.app g).rts=f.rts++g.rts
 | .nil=>rfl
 | .nd v c s=>by
  have:=acZ g s;simp [FT.app,FT.rts,this]
theorem abt:∀(g:FT) {x:Int},x∈g.rts->x∈g.vs
 | .nil,x,h=>h
 | .nd v c s,x,h=>by
  simp only [FT.rts,a_] at h;simp only [FT.vs,a_,bJ];rcases h with h|h
  ·exact .inl h
  ·exact .inr (.inr (abt s h))
def RtO (pa:Int->Int->Prop) (v fr:Int) (g:FT):Prop:=g.rts.Pairwise (· < ·)/\∀u,u∈g.rts↔Nb pa v fr u
def GF (pa:Int->Int->Prop):FT->Int->Prop
 | .nil,_=>True
 | .nd u c s,v=>(RtO pa u v c/\GF pa c u)/\GF pa s v
theorem auQ {pa:Int->Int->Prop} {v:Int} {g:FT}:∀{f:FT},GF pa f v->GF pa g v->GF pa (f.app g) v
 | .nil,_,h=>h
 | .nd u c s,h,h'=>⟨h.1,auQ h.2 h'⟩
def QF (pa:Int->Int->Prop) (v fr:Int) (i:Nat) (f:FT):Prop:=f.rts.Pairwise (· < ·)/\(∀u,u∈f.rts↔Nb pa v fr u/\u<i)/\GF pa f v
theorem aAh {pa:Int->Int->Prop} {v fr:Int} {i:Nat} {f:FT} (h:QF pa v fr i f) (eF:¬Nb pa v fr i):QF pa v fr (i+1) f:=by
 refine ⟨h.1,fun u => ?_,h.2.2⟩;rw [h.2.1];constructor
 ·rintro ⟨h1,h2⟩;exact ⟨h1,by omega⟩
 ·rintro ⟨h1,h2⟩;refine ⟨h1,?_⟩;by_cases hu:u=(i:Int)
  ·subst hu;exact absurd h1 eF
  ·omega
theorem aB1 {pa:Int->Int->Prop} {v fr:Int} {i:Nat} {f g:FT} (h:QF pa v fr i f) (oG:Nb pa v fr i) (hg:RtO pa i v g) (qA:GF pa g i):QF pa v fr (i+1) (f.app (.nd i g .nil)):=by
 refine ⟨?_,fun u => ?_,auQ h.2.2 ⟨⟨hg,qA⟩,trivial⟩⟩
 ·rw [acZ];simp only [FT.rts];rw [List.pairwise_append];refine ⟨h.1,by simp,fun a ha b hb => ?_⟩;rw [cB] at hb;subst hb;exact ((h.2.1 a).1 ha).2
 ·rw [acZ,bJ,h.2.1];simp only [FT.rts,cB];constructor
  ·rintro (⟨h1,h2⟩|rfl)
   ·exact ⟨h1,by omega⟩
   ·exact ⟨oG,by omega⟩
  ·rintro ⟨h1,h2⟩;by_cases hu:u=(i:Int)
   ·exact .inr hu
   ·exact .inl ⟨h1,by omega⟩
theorem Df {n:Nat} {e:Ed} (h:eG n e=true):0<=e.1/\e.1<e.2/\e.2<n:=by
 unfold eG at h;simp only [aU,aW,decide_eq_true_eq] at h;omega
theorem awT (n:Nat) (es:aa Ed) (h1:1<=n) (hn:n<=12) (qB:es.length<=1000) (hE:∀e,e∈es->eG n e=true) :
  ∃b,Xp ((n:Int),es)=some (b,())/\(b=true↔∃i,∃hi:i<es.length,Con (es.take i) es[i].1 es[i].2):=by
 have hm:maxLen=9223372036854775807:=by decide
 show ∃b,Xo BIG _=_/\_;rw [awJ,ME n (by omega),ae];refine dW (P:=fun o=>∃b,o=some (b,())/\(b=true↔∃i,∃hi:i<es.length,Con (es.take i) es[i].1 es[i].2)) (fun (s:aa Int × Int)=>∃i:Nat,s.2=(i:Int)/\i<=es.length/\Lab n (es.take i) s.1/\∀k,k<i->∀hk:k<es.length,¬Con (es.take k) es[k].1 es[k].2) (fun s=>es.length-s.2.toNat) (fun _ (b:Unit ⊕ Bool)=>(b = .inl ()/\∀k (hk:k<es.length),¬Con (es.take k) es[k].1 es[k].2)\/(b = .inr true/\∃i,∃hi:i<es.length,Con (es.take i) es[i].1 es[i].2)) (by simp [BIG];omega) ⟨0,rfl,by omega,Lab.zero n,fun k hk=>by omega⟩ (fun self s hx hs => ?_) (fun b hb => ?_)
 ·obtain ⟨l,j⟩:=s;obtain ⟨i,h3,h4,h5,h6⟩:=hx;simp only at h3 h4 h5 h6 hs ⊢;subst h3;by_cases hi:i<es.length
  ·simp only [show ((i:Int)<(es.length:Int)) from by omega,decide_true,ai];have he:=Df (hE _ (nM hi));have hll:=h5.1;rw [aH hi,aT hi,ae,MF l es[i].1 es[i].2 he.1 (by omega) (by omega) (by omega) (by omega),ae];have MU:=h5.iff (getD_at (show es[i].1.toNat<l.length by omega)) (getD_at (show es[i].2.toNat<l.length by omega));rw [jL he.1,jL (by omega:0<=es[i].2)] at MU;by_cases hq:l.getD es[i].1.toNat 0=l.getD es[i].2.toNat 0
   ·rw [ak hq];exact ⟨_,rfl,.inr ⟨rfl,i,hi,MU.1 hq⟩⟩
   ·rw [aA hq];simp only [ib,bC,ax];rw [bV (by omega)];refine hs _ ⟨i+1,rfl,hi,?_,fun k hk om => ?_⟩ (by simp;omega)
    ·rw [rO hi];exact h5.unE (e:=es[i]) ⟨he.1,by omega,by omega,he.2.2⟩
    ·by_cases Hr:k=i
     ·subst Hr;exact fun hc=>hq (MU.2 hc)
     ·exact h6 k (by omega) om
  ·simp only [show ¬((i:Int)<(es.length:Int)) from by omega,decide_false,ax];exact ⟨_,rfl,.inl ⟨rfl,fun k hk=>h6 k (by omega) hk⟩⟩
 ·rcases hb with ⟨rfl,h⟩|⟨rfl,h⟩
  ·exact ⟨false,rfl,⟨(fun h=>by cases h),fun ⟨i,hi,hc⟩=>absurd hc (h i hi)⟩⟩
  ·exact ⟨true,rfl,⟨fun _=>h,fun _=>rfl⟩⟩
def FT.pr:FT->Int->aa (Int × Int)
 | .nil,_=>[]
 | .nd w c s,r=>(r,w)::(c.pr w++s.pr r)
theorem XE:∀(f:FT) (r:Int) (S:Int->Prop),S r->(∀a b,(a,b)∈f.pr r->S a->S b)->∀x,x∈f.vs->S x
 | .nil,_,_,_,_,x,h=>by cases h
 | .nd w c s,r,S,hr,hs,x,h=>by
  have hw:S w:=hs r w (dX ..) hr;simp only [FT.vs,a_,bJ] at h;rcases h with rfl|h|h
  ·exact hw
  ·exact XE c w S hw (fun a b d_=>hs a b (dU _ (jr _ d_))) x h
  ·exact XE s r S hr (fun a b d_=>hs a b (dU _ (jJ _ d_))) x h
theorem mI {α:Type} [DecidableEq α]:∀(l1 l2:aa α),l1.Nodup->(∀x,x∈l1->x∈l2)->l1.length<=l2.length
 | [],l2,_,_=>by simp
 | x::l1,l2,hn,h=>by
  rw [nP] at hn;have hx:=h x (dX ..);have:=mI l1 (l2.erase x) hn.2 fun y hy=>(List.mem_erase_of_ne (by rintro rfl;exact hn.1 hy)).2 (h y (dU _ hy))
  rw [List.length_erase_of_mem hx] at this;have:=List.length_pos_of_mem hx;simp only [bI];omega
theorem XF {α β:Type} (f:α->β):∀(l:aa α),l.Nodup->(∀x,x∈l->∀y,y∈l->f x=f y->x=y)->(l.map f).Nodup
 | [],_,_=>by simp
 | x::l,hn,h=>by
  rw [nP] at hn;rw [bz,nP];refine ⟨fun hm => ?_,XF f l hn.2 fun a ha b hb=>h a (dU _ ha) b (dU _ hb)⟩;obtain ⟨y,hy,e⟩:=bY.1 hm;have:=h y (dU _ hy) x (dX ..) e;subst this;exact hn.1 hy
theorem G8 {pa:Int->Int->Prop}:∀(c:FT) (u:Int),GF pa c u->∀y,y∈c.vs->∀z,(pa z y\/pa y z)->z∈c.vs\/z=u
 | .nil,_,_,y,h,_,_=>by cases h
 | .nd w c s,u,⟨⟨hR,hG⟩,hS⟩,y,h,z,hz=>by
  simp only [FT.vs,a_,bJ] at h ⊢;rcases h with rfl|h|h
  ·by_cases hzu:z=u
   ·exact .inr hzu
   ·exact .inl (.inr (.inl (abt c ((hR.2 z).2 ⟨hzu,hz⟩))))
  ·rcases G8 c w hG y h z hz with h1|h1
   ·exact .inl (.inr (.inl h1))
   ·exact .inl (.inl h1)
  ·rcases G8 s u hS y h z hz with h1|h1
   ·exact .inl (.inr (.inr h1))
   ·exact .inr h1
structure TrE (v:Int) (f:FT) (E:List Ed):Prop where
 nd:E.Nodup
 mem:∀a b,(a,b)∈E↔a<b/\((a,b)∈f.pr v\/(b,a)∈f.pr v)
section
variable {v:Int} {f:FT} {E:aa Ed} (ht:TrOk v f) (hE:TrE v f E)
include ht
include hE
end
def mE (E:aa Ed) (e:Ed):aa Ed:=E.filter fun x=>decide (x≠e)
theorem ng {E:aa Ed} {e x:Ed}:x∈mE E e↔x∈E/\x≠e:=by simp [mE]
def NoCyc (E:aa Ed):Prop:=∀e,e∈E->¬Con (mE E e) e.1 e.2
theorem NoCyc.sub {E E':aa Ed} (h:NoCyc E) (hs:∀e,e∈E'->e∈E):NoCyc E':=fun e he hc=>
 h e (hs e he) (hc.mono fun x hx=>ng.2 ⟨hs x (ng.1 hx).1,(ng.1 hx).2⟩)
theorem MK {l:aa Ed} {a b:Int} (h:NoCyc l) (hx:¬Con l a b):NoCyc (l++[(a,b)]):=by
 intro e he hc;by_cases hea:e=(a,b)
 ·subst hea;refine hx (hc.mono fun x Cj => ?_);obtain ⟨h1,h2⟩:=ng.1 Cj;rw [bJ,cB] at h1;rcases h1 with h1|h1
  ·exact h1
  ·exact absurd h1 h2
 ·have Cn:e∈l:=by
   rw [bJ,cB] at he;rcases he with he|he
   ·exact he
   ·exact absurd he hea
  have hm:mE (l++[(a,b)]) e=mE l e++[(a,b)]:=by
   unfold mE;rw [RO];simp [h_ hea]
  have gT:∀{x y:Int},Con (mE l e) x y->Con l x y:=fun hc=>hc.mono fun x hx=>(ng.1 hx).1
  have HZ:Con l e.1 e.2:=.of Cn;rw [hm] at hc;rcases Con.snoc.1 hc with h1|⟨h1,h2⟩|⟨h1,h2⟩
  ·exact h e Cn h1
  ·exact hx (((gT h1).symm.trans HZ).trans (gT h2).symm)
  ·exact hx (((gT h2).trans HZ.symm).trans (gT h1))
theorem ajY {E:aa Ed} (h:∀i,∀hi:i<E.length,¬Con (E.take i) E[i].1 E[i].2):∀i,i<=E.length->NoCyc (E.take i)
 | 0,_=>by intro e he;simp at he
 | i+1,hi=>by
  rw [rO (by omega)];exact MK (ajY h i (by omega)) (h i (by omega))
theorem awU {E:aa Ed} (hn:E.Nodup):(∃i,∃hi:i<E.length,Con (E.take i) E[i].1 E[i].2)↔¬NoCyc E:=by
 constructor
 ·rintro ⟨i,hi,hc⟩ h;refine h _ (nM hi) (hc.mono fun x hx=>ng.2 ⟨List.mem_of_mem_take hx,?_⟩);rintro rfl;rw [<-Kr i E,RU] at hn;exact hn.2.2 _ hx _ (by rw [u6 hi];exact dX ..) rfl
 ·intro h;apply yV;intro eF;refine h ?_;have:=ajY (E:=E) (fun i hi hc=>eF ⟨i,hi,hc⟩) E.length (eY _);rwa [nN] at this
def ed (a b:Int):Ed:=if a<b then (a,b) else (b,a)
theorem zV (a b:Int):ed a b=ed b a:=by
 unfold ed;by_cases h:a<b
 ·rw [if_pos h,if_neg (by omega)]
 ·by_cases h':b<a
  ·rw [if_neg h,if_pos h']
  ·have:a=b:=by omega
   rw [this]
theorem auR {v u w:Int} (h:ed v u=ed v w):u=w:=by
 unfold ed at h;split at h<;>split at h<;>simp only [di] at h<;>omega
theorem auS (v u:Int):(ed v u).1=v\/(ed v u).2=v:=by
 unfold ed;split
 ·exact .inl rfl
 ·exact .inr rfl
def ad (E:aa Ed) (u v:Int):Prop:=(u,v)∈E\/(v,u)∈E
theorem SH {E:aa Ed} {u v:Int} (h:ad E u v):ad E v u:=h.symm
theorem ajZ {E:aa Ed} {a b:Int} (h:ed a b∈E):Con E a b:=by
 unfold ed at h;split at h
 ·exact .of h
 ·exact (Con.of h).symm
section
variable {n:Nat} {E:aa Ed} (hE:∀e,e∈E->eG n e=true)
include hE
theorem SI {a b:Int}:ed a b∈E↔ad E a b:=by
 unfold ed ad;constructor
 ·intro h;split at h
  ·exact .inl h
  ·exact .inr h
 ·rintro (h|h)
  ·have:=Df (hE _ h);rw [if_pos this.2.1];exact h
  ·have:=Df (hE _ h);simp only at this;rw [if_neg (by omega)];exact h
theorem SL {a b:Int} (h:ad E a b):(0<=a/\a<n)/\(0<=b/\b<n)/\a≠b:=by
 rcases h with h|h
 ·have:=Df (hE _ h);simp only at this;omega
 ·have:=Df (hE _ h);simp only at this;omega
end
def NG (E:aa Ed) (v fr x:Int):Prop:=fr = -1\/Con (mE E (ed v fr)) v x
theorem aj0 (E:aa Ed) (v fr:Int):NG E v fr v:=.inr (.refl _)
section
variable {E:aa Ed} (hN:NoCyc E)
include hN
theorem SN {u v:Int} (he:ed u v∈E):¬Con (mE E (ed u v)) u v:=by
 intro hc;refine hN _ he ?_;unfold ed at hc ⊢;split
 ·rename_i h;rw [if_pos h] at hc;exact hc
 ·rename_i h;rw [if_neg h] at hc;exact hc.symm
theorem auT {u v x:Int} (he:ed u v∈E) {e1:Ed} (h1:e1.1=v\/e1.2=v) (h:Con (mE E (ed u v)) u x):Con (mE E e1) u x:=by
 induction h with
 | refl=>exact .refl _
 | fwd hc hm ih=>
  refine .fwd ih (ng.2 ⟨(ng.1 hm).1,?_⟩);rintro rfl;rcases h1 with h1|h1
  ·simp only at h1;subst h1;exact SN hN he hc
  ·simp only at h1;subst h1;exact SN hN he (.fwd hc hm)
 | bwd hc hm ih=>
  refine .bwd ih (ng.2 ⟨(ng.1 hm).1,?_⟩);rintro rfl;rcases h1 with h1|h1
  ·simp only at h1;subst h1;exact SN hN he (.bwd hc hm)
  ·simp only at h1;subst h1;exact SN hN he hc
theorem aol {n:Nat} (hE:∀e,e∈E->eG n e=true) {v fr u x:Int} (hu:Nb (ad E) v fr u) (h:NG E u v x):NG E v fr x/\x≠v:=by
 have had:ad E u v:=by
  rcases hu.2 with h|h
  ·exact h
  ·exact SH h
 have lF:=SL hE had;have he:ed u v∈E:=(SI hE).2 had;have hc:Con (mE E (ed u v)) u x:=by
  rcases h with h|h
  ·omega
  ·exact h
 refine ⟨.inr ?_,?_⟩
 ·refine Con.trans ?_ (auT hN he (e1:=ed v fr) (auS v fr) hc);refine ajZ (ng.2 ⟨by rw [zV];exact he,fun h=>hu.1 (auR h)⟩)
 ·rintro rfl;exact SN hN he hc
theorem aAi {n:Nat} (hE:∀e,e∈E->eG n e=true) {v fr u u' x:Int} (hu:Nb (ad E) v fr u) (hu':Nb (ad E) v fr u') (h:NG E u v x) (h':NG E u' v x):u=u':=by
 have conv:∀{w:Int},Nb (ad E) v fr w->ad E w v:=fun hw=>by
  rcases hw.2 with h|h
  ·exact h
  ·exact SH h
 have lF:=SL hE (conv hu);have he:=(SI hE).2 (conv hu);have HV:=(SI hE).2 (conv hu');have hc:Con (mE E (ed u v)) u x:=by
  rcases h with h|h
  ·omega
  ·exact h
 have je:Con (mE E (ed u' v)) u' x:=by
  rcases h' with h|h
  ·omega
  ·exact h
 apply yV;intro aZ;refine SN hN HV ?_;have h1:Con (mE E (ed u' v)) u x:=auT hN he (e1:=ed u' v) (by rw [zV];exact auS v u') hc;have h2:Con (mE E (ed u' v)) u v:=ajZ (ng.2 ⟨he,fun h=>aZ (auR (v:=v) (by rw [zV v u,zV v u'];exact h))⟩);exact (je.trans h1.symm).trans h2
end
def WG (n:Nat) (pa:Int->Int->Prop) (v fr:Int) (seen:aa Bool) (f:FT) (seen':aa Bool):Prop:=
 (v::f.vs).Nodup/\(∀x,x∈v::f.vs->(0<=x/\x<n)/\seen.getD x.toNat false=false)/\(∀x:Nat,x<n->(seen'.getD x false=true↔seen.getD x false=true\/(x:Int)∈v::f.vs))/\RtO pa v fr f/\GF pa f v
def WNC (n:Nat) (E:aa Ed) (v fr:Int) (seen:aa Bool):Prop:=NoCyc E/\∀x:Nat,x<n->NG E v fr x->seen.getD x false=false
section
variable {n:Nat} {E:aa Ed} (hE:∀e,e∈E->eG n e=true)
include hE
theorem auU {v fr u:Int} (h:Nb (ad E) v fr u):(0<=u/\u<n):=by
 rcases h.2 with h|h
 ·exact (SL hE h).1
 ·exact (SL hE h).2.1
theorem ayt (hn:n<=12) (qB:E.length<=1048576):∀(d:Nat) (v fr:Int) (seen:aa Bool) (W:aa Int),seen.length=n->(0<=v/\v<n)->seen.getD v.toNat false=false->W.Nodup->(∀x,x∈W->(0<=x/\x<n)/\seen.getD x.toNat false=true)->n<W.length+d ->
  ∃t ring seen',xL d ((n:Int),E,v,fr,seen)=some ((t,ring),seen')/\seen'.length=n/\(ring=false->∃f,t=tr v f/\WG n (ad E) v fr seen f seen')/\(WNC n E v fr seen->ring=false/\∀x,x∈t->NG E v fr x)
 | 0,v,fr,seen,W,_,_,_,hWn,hW,hd=>by
  have:=vS n W hWn (fun x hx=>(hW x hx).1)
  omega
 | d+1,v,fr,seen,W,hs,hv,hvf,hWn,hW,hd=>by
  have hm:maxLen=9223372036854775807:=by decide
  have hvn:v.toNat<seen.length:=by omega
  have hvW:v∉W:=fun h=>by
   have:=(hW v h).2
   rw [hvf] at this;cases this
  have aGs:(v::W).Nodup:=nP.2 ⟨hvW,hWn⟩
  show ∃t ring seen',Lt (xL d) BIG _=_/\_
  rw [ap8]
  rw [bW hv.1 (by omega),aT hvn,ae]
  refine dW (x:=([v],seen.set v.toNat true,(0:Int))) (P:=fun o=>∃t ring seen',o=some ((t,ring),seen')/\seen'.length=n/\(ring=false->∃f,t=tr v f/\WG n (ad E) v fr seen f seen')/\(WNC n E v fr seen->ring=false/\∀x,x∈t->NG E v fr x))
   (fun (x:aa Int × aa Bool × Int)=>∃(i:Nat) (f:FT),x.2.2=(i:Int)/\i<=n/\x.1=tr v f/\x.2.1.length=n/\(v::f.vs).Nodup/\(∀y,y∈v::f.vs->(0<=y/\y<n)/\seen.getD y.toNat false=false)/\(∀y:Nat,y<n->(x.2.1.getD y false=true↔seen.getD y false=true\/(y:Int)∈v::f.vs))/\QF (ad E) v fr i f/\(WNC n E v fr seen->∀y,y∈f.vs->∃u:Nat,u<i/\Nb (ad E) v fr u/\NG E u v y))
   (fun x=>n-x.2.2.toNat) (fun _ (b:(aa Int × aa Bool) ⊕ (aa Int × Bool × aa Bool))=>(∃f seen',b = .inl (tr v f,seen')/\seen'.length=n/\WG n (ad E) v fr seen f seen'/\(WNC n E v fr seen->∀x,x∈tr v f->NG E v fr x))\/(∃t seen',b = .inr (t,true,seen')/\seen'.length=n/\¬WNC n E v fr seen)) (by simp [BIG];omega)
   ⟨0,.nil,rfl,by omega,rfl,by rw [lX];exact hs,by simp [FT.vs],fun y hy => ?_,fun y hy => ?_,⟨List.Pairwise.nil,fun u => ?_,trivial⟩,fun _ y hy=>by simp [FT.vs] at hy⟩ (fun self x hx Di => ?_) (fun b hb => ?_)
  ·simp only [FT.vs,a_,tq,or_false] at hy
   subst hy
   exact ⟨hv,hvf⟩
  ·rw [arc hvn]
   simp only [FT.vs,a_,tq,or_false]
   constructor
   ·rintro (h|h)
    ·exact .inl h
    ·exact .inr (by omega)
   ·rintro (h|h)
    ·exact .inl h
    ·exact .inr (by omega)
  ·simp only [FT.rts,tq,false_iff,not_and]
   intro h
   have:=auU hE h
   omega
  ·obtain ⟨out,sn,u⟩:=x
   obtain ⟨i,f,h1,h2,h3,h4,h5,h6,h7,h8,h9⟩:=hx
   simp only at h1 h2 h3 h4 h5 h6 h7 h8 h9 Di ⊢
   subst h1 h3
   by_cases hi:i<n
   ·have hed:(bif decide (v<(i:Int)) then some (v,(i:Int)) else some ((i:Int),v))=some (ed v i):=by
     unfold ed;by_cases h:v<(i:Int)
     ·rw [ak h,if_pos h];rfl
     ·rw [aA h,if_neg h];rfl
    simp only [show ((i:Int)<(n:Int)) from by omega,decide_true,ai,hed,ae]
    have ayW:¬Nb (ad E) v fr i->∃b,self (tr v f,sn,IntKind.wrap .i64 ((i:Int)+1))=some b/\((∃f seen',b = .inl (tr v f,seen')/\seen'.length=n/\WG n (ad E) v fr seen f seen'/\(WNC n E v fr seen->∀x,x∈tr v f->NG E v fr x))\/(∃t seen',b = .inr (t,true,seen')/\seen'.length=n/\¬WNC n E v fr seen)):=by
     intro eF
     rw [bV (by omega)]
     exact Di _ ⟨i+1,f,rfl,by omega,rfl,h4,h5,h6,h7,aAh h8 eF,fun hw y hy=>by
      obtain ⟨u,g2,g3⟩:=h9 hw y hy
      exact ⟨u,by omega,g3⟩⟩ (by simp;omega)
    by_cases hif:(i:Int)=fr
    ·rw [ak hif]
     simp only [ai,ae]
     exact ayW (fun h=>h.1 hif)
    ·rw [aA hif]
     rw [ax,Bp _ _ (by omega),ae]
     by_cases bq:ed v i∈E
     ·have had:ad E v i:=(SI hE).1 bq
      have oG:Nb (ad E) v fr i:=⟨hif,.inr had⟩
      have NQ:i<sn.length:=by omega
      rw [ak bq]
      simp only [bC,ae,ax]
      rw [aH NQ,aT NQ,ae]
      have hgi:sn.getD i false=sn[i]:=gD (aT NQ)
      -- nothing of i's side was met before
      have arN:WNC n E v fr seen->∀x:Nat,x<n->NG E i v x->sn.getD x false=false:=by
       intro hw x hx hb
       obtain ⟨b1,b2⟩:=aol hw.1 hE oG hb
       cases hg:sn.getD x false with
       | false=>rfl
       | true=>
        exfalso
        rcases (h7 x hx).1 hg with h|h
        ·rw [hw.2 x hx b1] at h;cases h
        ·rw [a_] at h
         rcases h with h|h
         ·exact b2 h
         ·obtain ⟨u,u1,u2,u3⟩:=h9 hw _ h
          have:=aAi hw.1 hE u2 oG u3 hb
          omega
      by_cases hsi:sn[i]=true
      ·rw [hsi,ai,ae]
       refine ⟨_,rfl,.inr ⟨_,_,rfl,h4,fun hw => ?_⟩⟩
       have:=arN hw i hi (aj0 E i v)
       rw [hgi,hsi] at this
       cases this
      ·have qx:sn[i]=false:=by simpa using hsi
       rw [qx,ax]
       obtain ⟨t,ring,sn',e1,w1,w2,w3⟩:=ayt hn qB d i v sn (v::W) h4 (by omega) (by rw [iB,hgi,qx]) aGs (fun x hx=>by
        rw [a_] at hx
        rcases hx with rfl|hx
        ·exact ⟨hv,by rw [h7 x.toNat (by omega),jL hv.1];exact .inr (dX ..)⟩
        ·obtain ⟨x1,x2⟩:=hW x hx
         exact ⟨x1,by rw [h7 x.toNat (by omega)];exact .inl x2⟩) (by simp only [bI];omega)
       rw [e1,ae]
       cases ring with
       | true=>
        rw [ai,ae]
        refine ⟨_,rfl,.inr ⟨_,_,rfl,w1,fun hw => ?_⟩⟩
        have:=(w3 ⟨hw.1,arN hw⟩).1
        cases this
       | false=>
        obtain ⟨g,rfl,k1,k2,k3,k4,k5⟩:=w2 rfl
        have Ck:f.vs.length<=12:=by
         have:=vS n (v::f.vs) h5 (fun x hx=>(h6 x hx).1)
         simp only [bI] at this;omega
        have hgl:g.vs.length<=12:=by
         have:=vS n (_::g.vs) k1 (fun x hx=>(k2 x hx).1)
         simp only [bI] at this;omega
        simp only [ax]
        rw [ak (by simp only [yf];omega),ai,ak (by simp only [dR,yf,bI,bS];omega),ai,ae]
        have eo:(tr v f++tr i g)++[v]=tr v (f.app (.nd i g .nil)):=by simp [tr,auL,FT.sg]
        simp only [eo]
        have evs:(f.app (.nd i g .nil)).vs=f.vs++((i:Int)::g.vs):=by rw [auM];simp [FT.vs]
        rw [bV (by omega)]
        refine Di _ ⟨i+1,_,rfl,by omega,rfl,w1,?_,fun y hy => ?_,fun y hy => ?_,aB1 h8 oG k4 k5,fun hw y hy => ?_⟩ (by simp;omega)
        ·rw [evs]
         have:(v::(f.vs++(i:Int)::g.vs))=(v::f.vs)++(i:Int)::g.vs:=rfl
         rw [this,RU]
         refine ⟨h5,k1,fun a ha b hb d_ => ?_⟩
         subst d_
         have h6':=h6 a ha
         have h7':=(h7 a.toNat (by omega)).2 (.inr (by rw [jL h6'.1.1];exact ha))
         rw [(k2 a hb).2] at h7'
         cases h7'
        ·rw [evs] at hy
         have:y∈(v::f.vs)\/y∈(i:Int)::g.vs:=by
          rw [a_,bJ] at hy
          rcases hy with hy|hy|hy
          ·exact .inl (hy▸dX ..)
          ·exact .inl (dU _ hy)
          ·exact .inr hy
         rcases this with hy|hy
         ·exact h6 y hy
         ·refine ⟨(k2 y hy).1,?_⟩
          have h0:=(k2 y hy).1
          cases hg:seen.getD y.toNat false with
          | false=>rfl
          | true=>
           have:=(h7 y.toNat (by omega)).2 (.inl hg)
           rw [(k2 y hy).2] at this
           cases this
        ·rw [k3 y hy,h7 y hy,evs]
         simp only [a_,bJ]
         constructor
         ·rintro ((h|h|h)|h|h)
          ·exact .inl h
          ·exact .inr (.inl h)
          ·exact .inr (.inr (.inl h))
          ·exact .inr (.inr (.inr (.inl h)))
          ·exact .inr (.inr (.inr (.inr h)))
         ·rintro (h|h|h|h|h)
          ·exact .inl (.inl h)
          ·exact .inl (.inr (.inl h))
          ·exact .inl (.inr (.inr h))
          ·exact .inr (.inl h)
          ·exact .inr (.inr h)
        ·rw [evs,bJ] at hy
         rcases hy with hy|hy
         ·obtain ⟨u,g2,g3⟩:=h9 hw y hy
          exact ⟨u,by omega,g3⟩
         ·exact ⟨i,by omega,oG,(w3 ⟨hw.1,arN hw⟩).2 y ((yg _ _ _).2 hy)⟩
     ·rw [aA bq]
      simp only [ib,ae,ai]
      refine ayW (fun h=>bq ((SI hE).2 ?_))
      rcases h.2 with h|h
      ·exact SH h
      ·exact h
   ·simp only [show ¬((i:Int)<(n:Int)) from by omega,decide_false,ax]
    have bq:i=n:=by omega
    subst bq
    refine ⟨_,rfl,.inl ⟨f,sn,rfl,h4,⟨h5,h6,h7,⟨h8.1,fun u => ?_⟩,h8.2.2⟩,fun hw x hx => ?_⟩⟩
    ·rw [h8.2.1]
     exact ⟨fun h=>h.1,fun h=>⟨h,(auU hE h).2⟩⟩
    ·rw [yg,a_] at hx
     rcases hx with rfl|hx
     ·exact aj0 ..
     ·obtain ⟨u,u1,u2,u3⟩:=h9 hw x hx
      exact (aol hw.1 hE u2 u3).1
  ·rcases hb with ⟨f,seen',rfl,h1,h2,h3⟩|⟨t,seen',rfl,h1,h2⟩
   ·exact ⟨_,_,_,rfl,h1,fun _=>⟨f,rfl,h2⟩,fun hw=>⟨rfl,h3 hw⟩⟩
   ·exact ⟨_,_,_,rfl,h1,fun h=>(by cases h),fun hw=>absurd hw h2⟩
end
theorem zW (l:aa Int) (x:Int) (hl:l.length<=1048576):jV (l,x)=some (decide (x∈l),()):=by
 have hm:maxLen=9223372036854775807:=by decide
 show WX BIG _=_;rw [awq,yh l (by omega) (fun y=>decide (y=x)) true (fun self i y hy => ?_) (fun self=>by simp)]
 ·rw [ae];have:l.any (fun y=>decide (y=x))=true↔x∈l:=by
   rw [nO];constructor
   ·rintro ⟨y,hy,h⟩;rw [decide_eq_true_eq] at h;rw [<-h];exact hy
   ·exact fun h=>⟨x,h,by simp⟩
  by_cases h:x∈l
  ·rw [if_pos (this.2 h),ak h]
  ·rw [if_neg (fun h'=>h (this.1 h')),aA h]
 ·have hi:=(bf hy).1;simp only [show ((i:Int)<(l.length:Int)) from by omega,decide_true,ai];rw [aH hi,hy,ae,bV (by omega)];by_cases h:y=x<;>simp [h]
theorem ard {v:Int} {c:FT} (h:TrOk v c):Lx (tr v c)=some (true,()):=by
 have hm:maxLen=9223372036854775807:=by decide
 have hl:=h.len;have bP:=yf v c;have hsl:=abq c v;have e0:(tr v c)[Int.toNat 0]?=some v:=rfl;have b0:∀{B:Type} {k:Nat->ah B},bnd (tr v c).length 0 k=k (Int.toNat 0):=fun {B k}=>bW (by omega) (by omega)
 show Lv BIG _=_;rw [aqc];simp only [b0,e0,ae];refine dW (P:=fun o=>o=some (true,())) (fun (x:aa Int × aa Int × Int)=>∃j:Nat,x.2.2=((j+1:Nat):Int)/\j<=(c.sg v).length/\fM uW ([v],[v]) ((c.sg v).take j)=some (x.1,x.2.1)/\1<=x.1.length/\x.1.length<=j+1/\x.2.1.length<=j+1) (fun x=>(tr v c).length-x.2.2.toNat)
  (fun _ (b:aa Int ⊕ Bool)=>b = .inl [v]) (by simp [BIG];omega) ⟨0,rfl,by omega,rfl,by simp,by simp,by simp⟩ (fun self x hx hs => ?_) (fun b hb=>by subst hb;rfl)
 obtain ⟨p,q,jj⟩:=x;obtain ⟨j,h1,h2,h3,k1,k2,k3⟩:=hx;simp only at h1 h2 h3 k1 k2 k3 hs ⊢;subst h1;by_cases hj:j<(c.sg v).length
 ·have hj1:j+1<(tr v c).length:=by omega
  have hy:(tr v c)[j+1]?=some (c.sg v)[j]:=by
   show (c.sg v)[j]?=_;exact aT hj
  have bj:∀{B:Type} {k:Nat->ah B},bnd (tr v c).length ((j+1:Nat):Int) k=k (j+1):=fun {B k}=>aH hj1
  generalize uL:(c.sg v)[j]=y at hy
  -- the step is one of the run's
  have gU:∃s',uW (p,q) y=some s':=by
   have hr:=h.run;rw [<-Kr j (c.sg v),abr,h3,ae,u6 hj,fM,uL] at hr;cases ik:uW (p,q) y with
   | none=>rw [ik] at hr;cases hr
   | some s'=>exact ⟨s',rfl⟩
  have NM:∀{s'},uW (p,q) y=some s'->fM uW ([v],[v]) ((c.sg v).take (j+1))=some s':=by
   intro s' ik;rw [rO hj,abr,h3,ae,fM,uL,ik];rfl
  obtain ⟨s',gU⟩:=gU;have ht:=NM gU;simp only [show (((j+1:Nat):Int)<((tr v c).length:Int)) from by omega,decide_true,ai,bj,hy,ae];have hw1:IntKind.wrap .i64 ((p.length:Int)-1)=((p.length-1:Nat):Int):=by rw [wr (by omega) (by omega)];omega
  have aGt:(bif decide ((1:Int)<(p.length:Int)) then
     bnd p.length (IntKind.wrap .i64 ((p.length:Int)-(2:Int))) fun n8=>
     Option.bind p[n8]? fun y9=>
     some (decide (y=y9))
     else some false)=some (decide (1<p.length/\p.getD (p.length-2) 0=y)):=by
   by_cases h1:1<p.length
   ·have hw2:IntKind.wrap .i64 ((p.length:Int)-2)=((p.length-2:Nat):Int):=by rw [wr (by omega) (by omega)];omega
    rw [ak (by omega),ai,hw2,aH (by omega),getD_at (by omega),ae];by_cases hq:p.getD (p.length-2) 0=y
    ·rw [ak hq.symm,ak ⟨h1,hq⟩]
    ·rw [aA (fun h=>hq h.symm),aA (fun h=>hq h.2)]
   ·rw [aA (by omega),ax,aA (fun h=>h1 h.1)]
  rw [aGt,ae];unfold uW at gU;by_cases hc:1<p.length/\p.getD (p.length-2) 0=y
  ·rw [if_pos hc] at gU;cases gU;simp only [ak hc,ai,hw1];rw [ak (by omega),ai,iB,ak (by omega),ai,ae,rR,tu];simp only;rw [bV (by omega)];refine hs _ ⟨j+1,rfl,hj,ht,?_,?_,by simp only;omega⟩ (by simp;omega)
   ·simp only [iD];omega
   ·simp only [iD];omega
  ·rw [if_neg hc] at gU;split at gU;case isFalse=>cases gU
   case isTrue hq=>
   cases gU;simp only [aA hc,ax];rw [zW q y (by omega),ae];simp only [aA hq.2,ax];rw [ak (by simp only [bI,bS];omega),ai,ak (by simp only [bI,bS];omega),ai,ae];simp only;rw [bV (by omega)];refine hs _ ⟨j+1,rfl,hj,ht,?_,?_,?_⟩ (by simp;omega)
   ·simp only [dR,bI,bS];omega
   ·simp only [dR,bI,bS];omega
   ·simp only [dR,bI,bS];omega
 ·have:j=(c.sg v).length:=by omega
  subst this;rw [nN,h.run] at h3;cases h3;simp only [show ¬((((c.sg v).length+1:Nat):Int)<((tr v c).length:Int)) from by omega,decide_false,ax];exact ⟨_,rfl,rfl⟩
theorem auV {v:Int} {c:FT} (h:TrOk v c):Po (tr v c)=some (true,()):=by
 have hm:maxLen=9223372036854775807:=by decide
 have hl:=h.len;have bP:=yf v c;show Pn BIG _=_;rw [atI,dM,show aY ((tr v c).length:Int) 1 23=true from aW.2 (by omega),ae];simp only [bC,ax];rw [yh (tr v c) (by omega) (fun y=>!aY y 0 11) false (fun self i y hy => ?_) (fun self=>by simp)]
 ·have:(tr v c).any (fun y=>!aY y 0 11)=false:=by
   rw [RQ];intro y hy;rw [show aY y 0 11=true from aW.2 (h.rg y ((yg _ _ _).1 hy))];simp
  rw [this];simp only [iP,if_false,ae];rw [ard h];rfl
 ·have hi:=(bf hy).1;simp only [show ((i:Int)<((tr v c).length:Int)) from by omega,decide_true,ai];rw [aH hi,hy,ae,dM,ae,bV (by omega)];cases aY y 0 11<;>rfl
theorem arf (t:aa Int) (ht:∀x,x∈t->0<=x/\x<=11) (hl:t.length<=1048576):∃V,kR t=some (V,())/\V.Pairwise (· < ·)/\(∀x,x∈V↔x∈t)/\V.length<=12:=by
 have hm:maxLen=9223372036854775807:=by decide
 show ∃V,Lu BIG _=_/\_;rw [aqa];refine dW (P:=fun o=>∃V:aa Int,o=some (V,())/\V.Pairwise (· < ·)/\(∀x,x∈V↔x∈t)/\V.length<=12) (fun (s:aa Int × Int)=>∃i:Nat,s.2=i/\i<=12/\s.1.Pairwise (· < ·)/\(∀x,x∈s.1↔x∈t/\x<i)/\s.1.length<=i) (fun s=>12-s.2.toNat)
  (fun _ (V:aa Int)=>V.Pairwise (· < ·)/\(∀x,x∈V↔x∈t)/\V.length<=12) (by simp [BIG]) ⟨0,rfl,by omega,by simp,fun x => ?_,by simp⟩ (fun self s hx hs => ?_) (fun V hV=>⟨V,rfl,hV⟩)
 ·simp only [tq,false_iff,not_and];intro hx;have:=ht x hx;omega
 obtain ⟨s,j⟩:=s;obtain ⟨i,h1,h2,h3,h4,h5⟩:=hx;simp only at h1 h2 h3 h4 h5 hs ⊢;subst h1;by_cases hi:i<12
 ·simp only [show ((i:Int)<12) from by omega,decide_true,ai];rw [zW t i hl,ae,bV (by omega)];by_cases bq:(i:Int)∈t
  ·rw [ak bq,ai,ak (by simp only [bI,bS];omega),ai,ae];refine hs _ ⟨i+1,rfl,by omega,?_,fun x => ?_,by simp only [dR,bI,bS];omega⟩ (by simp;omega)
   ·rw [List.pairwise_append];refine ⟨h3,by simp,fun a ha b hb => ?_⟩;rw [cB] at hb;subst hb;exact ((h4 a).1 ha).2
   ·simp only [bJ,cB];rw [h4];constructor
    ·rintro (⟨g1,g2⟩|rfl)
     ·exact ⟨g1,by omega⟩
     ·exact ⟨bq,by omega⟩
    ·rintro ⟨g1,g2⟩;by_cases hx:x=(i:Int)
     ·exact .inr hx
     ·exact .inl ⟨g1,by omega⟩
  ·rw [aA bq,ax,ae];refine hs _ ⟨i+1,rfl,by omega,h3,fun x => ?_,by simp only;omega⟩ (by simp;omega);simp only;rw [h4];constructor
   ·rintro ⟨g1,g2⟩;exact ⟨g1,by omega⟩
   ·rintro ⟨g1,g2⟩;refine ⟨g1,?_⟩;by_cases hx:x=(i:Int)
    ·subst hx;exact absurd g1 bq
    ·omega
 ·simp only [show ¬((i:Int)<12) from by omega,decide_false,ax];have:i=12:=by omega
  subst this;refine ⟨_,rfl,h3,fun x => ?_,h5⟩;rw [h4];exact ⟨fun h=>h.1,fun h=>⟨h,by have:=ht x h;omega⟩⟩
def aN (L:aa aD) (k:Int):aa Ed:=(L.filter fun x=>x.2.2.2&&decide (k<=x.2.2.1)).map fun x=>(x.1,x.2.1)
theorem ac0 (L:aa aD) (k:Int):(aN L k).length<=L.length:=by
 unfold aN;rw [dY];exact qX _ _
theorem abu (n:Int) (L:aa aD) (k:Int) (hL:L.length<=1048576):Lm ((n,L),k)=some (aN L k,()):=by
 have hm:maxLen=9223372036854775807:=by decide
 show CR BIG _=_;rw [ZL];refine dW (P:=fun o=>o=some (aN L k,())) (fun (s:aa Ed × Int)=>∃i:Nat,s.2=i/\i<=L.length/\s.1=aN (L.take i) k) (fun s=>L.length-s.2.toNat)
  (fun _ (V:aa Ed)=>V=aN L k) (by simp [BIG];omega) ⟨0,rfl,by omega,rfl⟩ (fun self s hx hs => ?_) (fun V hV=>by rw [hV])
 obtain ⟨s,j⟩:=s;obtain ⟨i,h1,h2,h3⟩:=hx;simp only at h1 h2 h3 hs ⊢;subst h1;by_cases hi:i<L.length
 ·have df:=ac0 (L.take i) k;rw [iD] at df;simp only [show ((i:Int)<(L.length:Int)) from by omega,decide_true,ai];rw [aH hi,aT hi,ae,bV (by omega)];have hn:aN (L.take (i+1)) k=aN (L.take i) k++(if L[i].2.2.2=true/\k<=L[i].2.2.1 then [(L[i].1,L[i].2.1)] else []):=by
   unfold aN;rw [rO hi,RO,uN];congr 1;by_cases h1:L[i].2.2.2=true<;>by_cases h2:k<=L[i].2.2.1<;>simp [h1,h2]
  cases ht:L[i].2.2.2 with
  | false=>
   rw [ax];simp only [ae,ax];exact hs _ ⟨i+1,rfl,hi,by simp only;rw [hn,if_neg (fun h=>by rw [ht] at h;cases h.1),nz,h3]⟩ (by simp;omega)
  | true=>
   rw [ai];simp only [ae];by_cases h2:k<=L[i].2.2.1
   ·rw [ak h2,ai,ak (by rw [h3];simp only [bI,bS];omega),ai,ae];exact hs _ ⟨i+1,rfl,hi,by simp only;rw [hn,if_pos ⟨ht,h2⟩,h3]⟩ (by simp;omega)
   ·rw [aA h2,ax,ae];exact hs _ ⟨i+1,rfl,hi,by simp only;rw [hn,if_neg (fun h=>h2 h.2),nz,h3]⟩ (by simp;omega)
 ·simp only [show ¬((i:Int)<(L.length:Int)) from by omega,decide_false,ax];have:i=L.length:=by omega
  subst this;exact ⟨_,rfl,by rw [h3,nN]⟩
structure GT (n:Nat) (E:List Ed) (v:Int) (f:FT):Prop where
 nd:(v::f.vs).Nodup
 rg:∀x,x∈v::f.vs->0<=x/\x<n
 rt:RtO (ad E) v (-1) f
 gf:GF (ad E) f v
theorem arh {n:Nat} {E:aa Ed} (hE:∀e,e∈E->eG n e=true) (h1:1<=n) (h2:n<=12) (qB:E.length<=1048576) (r:Int) (hr:0<=r/\r<n) :
  ∃t b,GD ((n:Int),E,r)=some ((t,b),())/\(b=true->∃f,t=tr r f/\GT n E r f)/\(NoCyc E->b=true):=by
 have hm:maxLen=9223372036854775807:=by decide
 obtain ⟨t,ring,sn,e1,w1,w2,w3⟩:=ayt hE h2 qB 64 r (-1) (List.replicate n false) [] (by simp) hr (by rw [gD (List.getElem?_replicate_of_lt (show r.toNat<n by omega))]) (by simp) (by simp) (by simp;omega);have e2:GD ((n:Int),E,r)=some (if ring=true then ([],false) else (t,true),()):=by
  show Pm BIG _=_;rw [atG,dM,show aY (n:Int) 1 12=true from aW.2 (by omega),ae];simp only [bC,ax];rw [wr (n:=(n:Int)-1) (by omega) (by omega),dM,show aY r 0 ((n:Int)-1)=true from aW.2 (by omega),ae,ae];simp only [bC,ax];rw [yh E (by omega) (fun y=>!eG n y) ([],false) (fun self i y hy => ?_) (fun self=>by simp)]
  ·have:E.any (fun y=>!eG n y)=false:=by
    rw [RQ];intro y hy;rw [hE y hy];simp
   rw [this];simp only [iP,if_false,ae];rw [ak (by omega),ai,ak (by omega),ai,iB,e1];cases ring<;>rfl
  ·have hi:=(bf hy).1;simp only [show ((i:Int)<(E.length:Int)) from by omega,decide_true,ai];rw [aH hi,hy,ae,GZ,ae,bV (by omega)];cases eG n y<;>rfl
 cases ring with
 | true=>
  refine ⟨[],false,e2,fun h=>(by cases h),fun hN => ?_⟩;have:=(w3 ⟨hN,fun x hx _=>gD (List.getElem?_replicate_of_lt hx)⟩).1;cases this
 | false=>
  refine ⟨t,true,e2,fun _ => ?_,fun _=>rfl⟩;obtain ⟨f,rfl,k1,k2,k3,k4,k5⟩:=w2 rfl;exact ⟨f,rfl,k1,fun x hx=>(k2 x hx).1,k4,k5⟩
theorem ari {pa:Int->Int->Prop}:∀(f:FT) (v:Int),(∀w,w∈f.rts->pa w v\/pa v w)->GF pa f v->∀{a b:Int},(a,b)∈f.pr v->pa b a\/pa a b
 | .nil,_,_,_,_,_,h=>by cases h
 | .nd w c s,v,hr,⟨⟨hR,hG⟩,hS⟩,a,b,h=>by
  simp only [FT.pr,a_,bJ,di] at h;rcases h with ⟨rfl,rfl⟩|h|h
  ·exact hr _ (dX ..)
  ·exact ari c w (fun x hx=>((hR.2 x).1 hx).2) hG h
  ·exact ari s v (fun x hx=>hr x (dU _ hx)) hS h
theorem aj1:∀(f:FT) (v:Int) {z:Int},z∈f.rts->(v,z)∈f.pr v
 | .nil,_,_,h=>by cases h
 | .nd w c s,v,z,h=>by
  simp only [FT.rts,a_] at h;simp only [FT.pr,a_,bJ];rcases h with rfl|h
  ·exact .inl rfl
  ·exact .inr (.inr (aj1 s v h))
theorem ac1 {pa:Int->Int->Prop}:∀(f:FT) (v:Int),GF pa f v->∀y,y∈f.vs->∀z,(pa z y\/pa y z)->(y,z)∈f.pr v\/(z,y)∈f.pr v
 | .nil,_,_,y,h,_,_=>by cases h
 | .nd w c s,v,⟨⟨hR,hG⟩,hS⟩,y,h,z,hz=>by
  simp only [FT.vs,a_,bJ] at h;simp only [FT.pr,a_,bJ];rcases h with rfl|h|h
  ·by_cases hzv:z=v
   ·subst hzv;exact .inr (.inl rfl)
   ·exact .inl (.inr (.inl (aj1 c y ((hR.2 z).2 ⟨hzv,hz⟩))))
  ·rcases ac1 c w hG y h z hz with h|h
   ·exact .inl (.inr (.inl h))
   ·exact .inr (.inr (.inl h))
  ·rcases ac1 s v hS y h z hz with h|h
   ·exact .inl (.inr (.inr h))
   ·exact .inr (.inr (.inr h))
theorem aj2 {pa:Int->Int->Prop}:∀(f:FT) (v:Int),(v::f.vs).Nodup->GF pa f v->∀{p w:Int},(p,w)∈f.pr v->∃c:FT,RtO pa w p c/\GF pa c w/\p∉w::c.vs
 | .nil,_,_,_,_,_,h=>by cases h
 | .nd u c s,v,hn,⟨⟨hR,hG⟩,hS⟩,p,w,h=>by
  have hn':(v::(u::(c.vs++s.vs))).Nodup:=hn;rw [nP,nP,RU] at hn';obtain ⟨n1,n2,n3,n4,n5⟩:=hn';simp only [FT.pr,a_,bJ,di] at h;rcases h with ⟨rfl,rfl⟩|h|h
  ·refine ⟨c,hR,hG,fun hm=>n1 ?_⟩;rw [a_] at hm;rcases hm with hm|hm
   ·rw [hm];exact dX ..
   ·exact dU _ (jr _ hm)
  ·exact aj2 c u (nP.2 ⟨fun hm=>n2 (jr _ hm),n3⟩) hG h
  ·exact aj2 s v (nP.2 ⟨fun hm=>n1 (dU _ (jJ _ hm)),n4⟩) hS h
section
variable {n:Nat} {E:aa Ed} (hE:∀e,e∈E->eG n e=true) {v:Int} {f:FT} (h:GT n E v f)
include hE h
theorem GT.con (x:Int):x∈v::f.vs↔Con E v x:=by
 constructor
 ·intro hx;rw [a_] at hx;rcases hx with rfl|hx
  ·exact .refl _
  ·refine XE f v (Con E v) (.refl _) (fun a b d_ ha => ?_) x hx;have:=ari f v (fun w hw=>((h.rt.2 w).1 hw).2) h.gf d_;have had:ad E a b:=by
    rcases this with h|h
    ·exact SH h
    ·exact h
   exact ha.trans (ajZ ((SI hE).2 had))
 ·intro hc;have step:∀y z,y∈v::f.vs->ad E y z->z∈v::f.vs:=by
   intro y z hy hz;rw [a_] at hy;rcases hy with rfl|hy
   ·have:=SL hE hz;exact dU _ (abt f ((h.rt.2 z).2 ⟨by omega,.inr hz⟩))
   ·rcases G8 f v h.gf y hy z (.inr hz) with h|h
    ·exact dU _ h
    ·rw [h];exact dX ..
  induction hc with
  | refl=>exact dX ..
  | fwd _ he ih=>exact step _ _ ih (.inl he)
  | bwd _ he ih=>exact step _ _ ih (.inr he)
theorem GT.bridge {p w:Int} (hp:(p,w)∈f.pr v):¬Con (mE E (ed p w)) w p:=by
 obtain ⟨c,c1,c2,c3⟩:=aj2 f v h.nd h.gf hp;intro hc;apply c3;have step:∀y z,y∈w::c.vs->ad E y z->ed y z≠ed p w->z∈w::c.vs:=by
  intro y z hy hz aZ;rw [a_] at hy;rcases hy with rfl|hy
  ·refine dU _ (abt c ((c1.2 z).2 ⟨?_,.inr hz⟩));rintro rfl;exact aZ (zV _ _)
  ·rcases G8 c w c2 y hy z (.inr hz) with h|h
   ·exact dU _ h
   ·rw [h];exact dX ..
 have all:∀x,Con (mE E (ed p w)) w x->x∈w::c.vs:=by
  intro x hc;induction hc with
  | refl=>exact dX ..
  | fwd _ he ih=>
   obtain ⟨h1,h2⟩:=ng.1 he;have:=Df (hE _ h1);refine step _ _ ih (.inl h1) ?_;unfold ed at h2 ⊢;rw [if_pos this.2.1];exact h2
  | bwd _ he ih=>
   obtain ⟨h1,h2⟩:=ng.1 he;have:=Df (hE _ h1);refine step _ _ ih (.inr h1) ?_;rw [zV];unfold ed at h2 ⊢;rw [if_pos this.2.1];exact h2
 exact all p hc
theorem GT.edge {a b:Int} (ha:a∈v::f.vs) (d_:ad E a b):(a,b)∈f.pr v\/(b,a)∈f.pr v:=by
 rw [a_] at ha;rcases ha with rfl|ha
 ·have:=SL hE d_;exact .inl (aj1 f a ((h.rt.2 b).2 ⟨by omega,.inr d_⟩))
 ·exact ac1 f v h.gf a ha b (.inr d_)
omit hE in
theorem GT.trok (dQ:n<=12):TrOk v f:=⟨h.nd,fun x hx=>by have:=h.rg x hx;omega⟩
end
theorem aml {n:Nat} {E:aa Ed} (hE:∀e,e∈E->eG n e=true) (h:∀e,e∈E->∃v f,GT n E v f/\e.1∈v::f.vs):NoCyc E:=by
 rintro ⟨a,b⟩ he hc;obtain ⟨v,f,hg,ha⟩:=h _ he;have bU:=Df (hE _ he);simp only at hc ha bU;have h1:ed a b=(a,b):=by unfold ed;rw [if_pos bU.2.1]
 rcases hg.edge hE ha (.inl he) with h|h
 ·refine hg.bridge hE h ?_;rw [h1];exact hc.symm
 ·refine hg.bridge hE h ?_;rw [zV,h1];exact hc
structure FoOk (n:Nat) (E:List Ed) (Fs:List (Int × FT)):Prop where
 gt:∀p,p∈Fs->GT n E p.1 p.2
 mn:∀p,p∈Fs->∀x,x∈p.1::p.2.vs->p.1<=x
 so:Fs.Pairwise (fun p q=>p.1<q.1)
 cv:∀x:Int,0<=x->x<n->∃p,p∈Fs/\x∈p.1::p.2.vs
def yj (Fs:aa (Int × FT)):aa (aa Int):=Fs.map fun p=>tr p.1 p.2
theorem wD {Fs:aa (Int × FT)} {i:Nat} {p:Int × FT} (h:Fs[i]?=some p):(yj Fs)[i]?=some (tr p.1 p.2):=by
 unfold yj;rw [kM,h];rfl
theorem Dt (Fs:aa (Int × FT)):(yj Fs).length=Fs.length:=by unfold yj;rw [dY]
section
variable {n:Nat} {E:aa Ed} (hE:∀e,e∈E->eG n e=true) {Fs:aa (Int × FT)} (h:FoOk n E Fs)
include hE h
theorem FoOk.nocyc:NoCyc E:=aml hE fun e he=>by
 have:=Df (hE e he)
 obtain ⟨p,h1,h2⟩:=h.cv e.1 (by omega) (by omega)
 exact ⟨p.1,p.2,h.gt p h1,h2⟩
theorem FoOk.same {p q:Int × FT} (hp:p∈Fs) (hq:q∈Fs) {x y:Int} (hx:x∈p.1::p.2.vs) (hy:y∈q.1::q.2.vs) (hc:Con E x y):p.1=q.1:=by
 have c1:=((h.gt p hp).con hE x).1 hx;have c2:=((h.gt q hq).con hE y).1 hy;have c3:Con E p.1 q.1:=(c1.trans hc).trans c2.symm;have l1:=h.mn p hp q.1 (((h.gt p hp).con hE _).2 c3);have l2:=h.mn q hq p.1 (((h.gt q hq).con hE _).2 c3.symm);omega
theorem FoOk.idx {i j:Nat} {p q:Int × FT} (hp:Fs[i]?=some p) (hq:Fs[j]?=some q) {x y:Int} (hx:x∈p.1::p.2.vs) (hy:y∈q.1::q.2.vs) (hc:Con E x y):i=j:=by
 have h0:=h.same hE (eZ hp) (eZ hq) hx hy hc;obtain ⟨hi,rfl⟩:=bf hp;obtain ⟨hj,rfl⟩:=bf hq;by_cases h1:i<j
 ·have:=RH.1 h.so i j hi hj h1;omega
 ·by_cases h2:j<i
  ·have:=RH.1 h.so j i hj hi h2;omega
  ·omega
omit hE in
theorem FoOk.size:Fs.length<=n:=by
 have:=vS n (Fs.map (·.1)) (by
  have:(Fs.map (·.1)).Pairwise (· < ·):=by rw [List.pairwise_map];exact h.so
  exact this.imp fun h=>by omega) (fun x hx=>by
  obtain ⟨p,hp,rfl⟩:=bY.1 hx
  exact (h.gt p hp).rg _ (dX ..))
 rwa [dY] at this
end
theorem AB {n:Nat} (L:aa aD) (k:Int) (h1:1<=n) (h2:n<=12) (hL:L.length<=1048576) (hE:∀e,e∈aN L k->eG n e=true) :
  ∃r b,qG (((n:Int),L),k)=some ((r.1,r.2,b),())/\(b=true↔NoCyc (aN L k))/\(b=true->∃Fs,r=((n:Int),yj Fs)/\FoOk n (aN L k) Fs):=by
 have hm:maxLen=9223372036854775807:=by decide
 have Cn:=ac0 L k;show ∃r b,Ip BIG _=_/\_;rw [alm,abu _ _ _ hL,ae,dM,show aY (n:Int) 1 12=true from aW.2 (by omega),ae];simp only [bC,ax];generalize hEE:aN L k=E at hE Cn ⊢;refine dW (x:=(((0:Int),[]),((n:Int),[]),[],(0:Int))) (P:=fun o=>∃(r:Int × aa (aa Int)) (b:Bool),o=some ((r.1,r.2,b),())/\(b=true↔NoCyc E)/\(b=true->∃Fs,r=((n:Int),yj Fs)/\FoOk n E Fs))
  (fun (s:(Int × aa (aa Int)) × (Int × aa (aa Int)) × aa Int × Int)=>∃(i:Nat) (Fs:aa (Int × FT)),s.2.2.2=(i:Int)/\i<=n/\s.2.1=((n:Int),yj Fs)/\(∀x,x∈s.2.2.1↔∃p,p∈Fs/\x∈p.1::p.2.vs)/\(∀p,p∈Fs->GT n E p.1 p.2/\p.1<i)/\(∀p,p∈Fs->∀x,x∈p.1::p.2.vs->p.1<=x)/\Fs.Pairwise (fun p q=>p.1<q.1)/\(∀x:Int,0<=x->x<i->∃p,p∈Fs/\x∈p.1::p.2.vs)/\Fs.length<=i/\s.2.2.1.length<=25*i)
  (fun s=>n-s.2.2.2.toNat) (fun _ (b:((Int × aa (aa Int)) × (Int × aa (aa Int))) ⊕ ((Int × aa (aa Int)) × Bool))=>(∃d Fs,b = .inl (d,((n:Int),yj Fs))/\FoOk n E Fs)\/(∃r,b = .inr (r,false)/\¬NoCyc E)) (by simp [BIG];omega)
  ⟨0,[],rfl,by omega,rfl,by simp,by simp,by simp,by simp,fun x h1 h2=>by omega,by simp,by simp⟩ (fun self s hx hs => ?_) (fun b hb => ?_)
 ·obtain ⟨dm,fo,dn,j⟩:=s;obtain ⟨i,Fs,k1,k2,k3,k4,k5,k6,k7,k8,k9,k10⟩:=hx;simp only at k1 k2 k3 k4 k5 k6 k7 k8 k9 k10 hs ⊢;subst k1 k3;by_cases hi:i<n
  ·simp only [show ((i:Int)<(n:Int)) from by omega,decide_true,ai];rw [zW dn i (by omega),ae];by_cases bq:(i:Int)∈dn
   ·simp only [ak bq,ai,ae];rw [bV (by omega)];refine hs _ ⟨i+1,Fs,rfl,by omega,rfl,k4,fun p hp=>⟨(k5 p hp).1,by have:=(k5 p hp).2;omega⟩,k6,k7,fun x x1 x2 => ?_,by omega,by simp only;omega⟩ (by simp;omega);by_cases hx:x=(i:Int)
    ·subst hx;exact (k4 _).1 bq
    ·exact k8 x x1 (by omega)
   ·simp only [aA bq,ax];obtain ⟨t,b,t1,t2,t3⟩:=arh hE h1 h2 (by omega) (i:Int) (by omega);rw [t1,ae];cases b with
    | false=>
     simp only [ib,ai,ae];refine ⟨_,rfl,.inr ⟨_,rfl,fun hN => ?_⟩⟩;have:=t3 hN;cases this
    | true=>
     obtain ⟨f,rfl,hg⟩:=t2 rfl;have yS:f.vs.length<=11:=(hg.trok h2).len;simp only [bC,ax];rw [ak (by simp only [Dt,bI,bS];omega),ai,ak (by rw [yf];omega),ai,ae];simp only;rw [bV (by omega)];have Jg:∀q,q∈Fs++[((i:Int),f)]↔q∈Fs\/q=((i:Int),f):=fun q=>by rw [bJ,cB]
     refine hs _ ⟨i+1,Fs++[((i:Int),f)],rfl,by omega,by simp [yj],fun x => ?_,fun p hp => ?_,fun p hp => ?_,?_,fun x x1 x2 => ?_,by simp only [dR,bI,bS];omega,by simp only [dR,yf];omega⟩ (by simp;omega)
     ·simp only [bJ];rw [k4,yg];constructor
      ·rintro (⟨p,p1,p2⟩|h)
       ·exact ⟨p,.inl p1,p2⟩
       ·exact ⟨_,.inr (cB.2 rfl),h⟩
      ·rintro ⟨p,p1|p1,p2⟩
       ·exact .inl ⟨p,p1,p2⟩
       ·rw [cB] at p1;subst p1;exact .inr p2
     ·rcases (Jg p).1 hp with hp|rfl
      ·exact ⟨(k5 p hp).1,by have:=(k5 p hp).2;omega⟩
      ·exact ⟨hg,by simp only;omega⟩
     ·rcases (Jg p).1 hp with hp|rfl
      ·exact k6 p hp
      ·intro x hx;simp only at hx ⊢;apply yV;intro bU;obtain ⟨q,q1,q2⟩:=k8 x (hg.rg x hx).1 (by omega);have c1:=((k5 q q1).1.con hE x).1 q2;have c2:=(hg.con hE x).1 hx;exact bq ((k4 _).2 ⟨q,q1,((k5 q q1).1.con hE _).2 (c1.trans c2.symm)⟩)
     ·rw [List.pairwise_append];refine ⟨k7,by simp,fun a ha b hb => ?_⟩;rw [cB] at hb;subst hb;exact (k5 a ha).2
     ·by_cases hx:x=(i:Int)
      ·subst hx;exact ⟨_,(Jg _).2 (.inr rfl),dX ..⟩
      ·obtain ⟨q,q1,q2⟩:=k8 x x1 (by omega);exact ⟨q,(Jg q).2 (.inl q1),q2⟩
  ·simp only [show ¬((i:Int)<(n:Int)) from by omega,decide_false,ax];have:i=n:=by omega
   subst this;exact ⟨_,rfl,.inl ⟨_,Fs,rfl,fun p hp=>(k5 p hp).1,k6,k7,k8⟩⟩
 ·rcases hb with ⟨d,Fs,rfl,hF⟩|⟨r,rfl,hN⟩
  ·exact ⟨((n:Int),yj Fs),true,rfl,⟨fun _=>hF.nocyc hE,fun _=>rfl⟩,fun _=>⟨Fs,rfl,hF⟩⟩
  ·exact ⟨r,false,rfl,⟨(fun h=>by cases h),fun h=>absurd h hN⟩,(fun h=>by cases h)⟩
theorem aB2 {V:aa Int} {x:Int} (hs:V.Pairwise (· < ·)) (hx:x∈V) (hm:∀y,y∈V->x<=y):V[0]?=some x:=by
 cases V with
 | nil=>cases hx
 | cons y V=>
  rw [List.pairwise_cons] at hs;rw [a_] at hx;have h1:=hm y (dX ..);rcases hx with rfl|hx
  ·rfl
  ·have:=hs.1 x hx;omega
section
variable {n:Nat} {E:aa Ed} (hE:∀e,e∈E->eG n e=true) {Fs:aa (Int × FT)} (h:FoOk n E Fs) (dQ:n<=12)
include h dQ
theorem FoOk.verts {p:Int × FT} (hp:p∈Fs):∃V,kR (tr p.1 p.2)=some (V,())/\V.Pairwise (· < ·)/\(∀x,x∈V↔x∈p.1::p.2.vs)/\V.length=(p.1::p.2.vs).length/\V[0]?=some p.1/\V.length<=12:=by
 have hg:=h.gt p hp;have hl:=(hg.trok dQ).len;obtain ⟨V,v1,v2,v3,v4⟩:=arf (tr p.1 p.2) (fun x hx=>(hg.trok dQ).rg x ((yg _ _ _).1 hx)) (by rw [yf];omega);have v5:∀x,x∈V↔x∈p.1::p.2.vs:=fun x=>by rw [v3,yg]
 have vn:V.Nodup:=v2.imp fun h=>by omega
 have l1:=mI V (p.1::p.2.vs) vn fun x hx=>(v5 x).1 hx
 have l2:=mI (p.1::p.2.vs) V hg.nd fun x hx=>(v5 x).2 hx
 exact ⟨V,v1,v2,v5,by omega,aB2 v2 ((v5 _).2 (dX ..)) fun y hy=>h.mn p hp y ((v5 y).1 hy),v4⟩
include hE
theorem amm (h1:1<=n):Ir ((n:Int),yj Fs)=some (true,()):=by
 have hm:maxLen=9223372036854775807:=by decide
 have dH:=h.size;have htl:=Dt Fs;show Iq BIG _=_;rw [alp,dM,show aY (n:Int) 1 12=true from aW.2 (by omega),ae];simp only [bC,ax];rw [aA (by omega),ae];simp only [ax];refine dW (x:=((0:Int),(0:Int))) (P:=fun o=>o=some (true,())) (fun (s:Int × Int)=>∃(i:Nat) (acc:aa Int),s.2=(i:Int)/\i<=Fs.length/\s.1=(acc.length:Int)/\acc.Nodup/\(∀x,x∈acc↔∃j:Nat,j<i/\∃p,Fs[j]?=some p/\x∈p.1::p.2.vs))
  (fun s=>Fs.length-s.2.toNat) (fun _ (b:Int ⊕ Bool)=>b = .inl (n:Int)) (by simp [BIG];omega) ⟨0,[],rfl,by omega,rfl,by simp,fun x=>by simp⟩ (fun self s hx hs => ?_) (fun b hb=>by subst hb;simp)
 obtain ⟨al,jj⟩:=s;obtain ⟨i,acc,k1,k2,k3,k4,k5⟩:=hx;simp only at k1 k2 k3 k4 k5 hs ⊢;subst k1 k3;have aGu:∀x,x∈acc->0<=x/\x<n:=fun x hx=>by
  obtain ⟨j,_,p,h2,h3⟩:=(k5 x).1 hx;exact (h.gt p (eZ h2)).rg x h3
 have BA:=vS n acc k4 aGu;by_cases hi:i<Fs.length
 ·have hp:=aT hi;generalize hpe:Fs[i]=p at hp;have kJ:=eZ hp;have hg:=h.gt p kJ;obtain ⟨V,v1,v2,v3,v4,v5,v6⟩:=h.verts dQ kJ;have hV0:0<V.length:=by rw [v4];simp
  have bi:∀{B:Type} {k:Nat->ah B},bnd (yj Fs).length (i:Int) k=k i:=fun {B k}=>aH (by omega)
  have hti:=wD hp;simp only [show ((i:Int)<((yj Fs).length:Int)) from by omega,decide_true,ai,bi,hti,ae,auV (hg.trok dQ),bC,ax,v1];have hwl:IntKind.wrap .i64 ((V.length:Int)-1)=((V.length-1:Nat):Int):=by rw [wr (by omega) (by omega)];omega
  have agN:V[V.length-1]?=some V[V.length-1]:=aT (by omega);have hlr:=hg.rg _ ((v3 _).1 (nM (show V.length-1<V.length by omega)));rw [hwl,aH (by omega),agN,ae,aA (by omega),ax];have agL:(bif decide ((0:Int)<(i:Int)) then
    bnd (yj Fs).length (IntKind.wrap .i64 ((i:Int)-(1:Int))) fun n12=>
    Option.bind (yj Fs)[n12]? fun y13=>
    Option.bind (kR y13) fun r14=>
    bnd r14.1.length (0:Int) fun n15=>
    Option.bind r14.1[n15]? fun y16=>
    bnd V.length (0:Int) fun n17=>
    Option.bind V[n17]? fun y18=>
    some (decide (y18<=y16))
    else some false)=some false:=by
   by_cases h0:0<i
   ·have hw:IntKind.wrap .i64 ((i:Int)-1)=((i-1:Nat):Int):=by rw [wr (by omega) (by omega)];omega
    have hq:=aT (show i-1<Fs.length by omega);generalize hqe:Fs[i-1]=q at hq;obtain ⟨W,w1,w2,w3,w4,w5,w6⟩:=h.verts dQ (eZ hq);have hW0:0<W.length:=by rw [w4];simp
    have bU:=RH.1 h.so (i-1) i (by omega) hi (by omega);rw [hqe,hpe] at bU;rw [ak (by omega),ai,hw,aH (by omega),wD hq,ae,w1,ae,bW (by omega) (by simp only;omega)];simp only;rw [show Int.toNat 0=0 from rfl,w5,ae,bW (by omega) (by omega),show Int.toNat 0=0 from rfl,v5,ae,aA (by omega)]
   ·rw [aA (by omega),ax]
  rw [agL,ae,ax];refine dW (x:=(0:Int)) (P:=fun o=>∃b:Int ⊕ Bool,o=some b/\b = .inl (n:Int)) (fun (s:Int)=>∃j:Nat,s=(j:Int)/\j<=i) (fun s=>i-s.toNat) (fun _ (b:Int ⊕ Bool)=>b = .inl (((acc++(p.1::p.2.vs)).length:Nat):Int)) (by simp [BIG];omega) ⟨0,rfl,by omega⟩ (fun self2 s RA FQ => ?_) (fun b hb => ?_)
  ·obtain ⟨j,rfl,hj⟩:=RA;by_cases iA:j<i
   ·have hq:=aT (show j<Fs.length by omega);generalize hqe:Fs[j]=q at hq;have htj:=wD hq;have bj:∀{B:Type} {k:Nat->ah B},bnd (yj Fs).length (j:Int) k=k j:=fun {B k}=>aH (by omega)
    have hql:=((h.gt q (eZ hq)).trok dQ).len;simp only [show ((j:Int)<(i:Int)) from by omega,decide_true,ai,bj,htj,ae];rw [yh V (by omega) (fun y=>decide (y∈tr q.1 q.2)) false (fun self3 m y hy => ?_) (fun self3=>by simp)]
    ·have eF:V.any (fun y=>decide (y∈tr q.1 q.2))=false:=by
      rw [RQ];intro y hy;rw [decide_eq_true_eq,yg];intro hy2;have:=h.idx hE hq hp hy2 ((v3 y).1 hy) (.refl _);omega
     rw [eF];simp only [iP,if_false,ae];rw [bV (by omega)];exact FQ _ ⟨j+1,rfl,by omega⟩ (by simp;omega)
    ·have NN:=(bf hy).1;simp only [show ((m:Int)<(V.length:Int)) from by omega,decide_true,ai];rw [aH NN,hy,ae,zW _ _ (by rw [yf];omega),ae,bV (by omega)];by_cases qz:y∈tr q.1 q.2<;>simp [qz]
   ·simp only [show ¬((j:Int)<(i:Int)) from by omega,decide_false,ax];refine ⟨_,rfl,?_⟩;rw [wr (by omega) (by omega),dR,<-v4];rfl
  ·subst hb;simp only;rw [bV (by omega)];refine hs _ ⟨i+1,acc++(p.1::p.2.vs),rfl,hi,rfl,?_,fun x => ?_⟩ (by simp;omega)
   ·rw [RU];refine ⟨k4,hg.nd,fun a ha b hb d_ => ?_⟩;subst d_;obtain ⟨j,j1,q,q1,q2⟩:=(k5 a).1 ha;have:=h.idx hE q1 hp q2 hb (.refl _);omega
   ·rw [bJ,k5];constructor
    ·rintro (⟨j,j1,j2⟩|hx)
     ·exact ⟨j,by omega,j2⟩
     ·exact ⟨i,by omega,p,hp,hx⟩
    ·rintro ⟨j,j1,q,q1,q2⟩;by_cases iA:j=i
     ·subst iA;rw [hp] at q1;cases q1;exact .inr q2
     ·exact .inl ⟨j,by omega,q,q1,q2⟩
 ·simp only [show ¬((i:Int)<((yj Fs).length:Int)) from by omega,decide_false,ax];refine ⟨_,rfl,?_⟩;have bq:i=Fs.length:=by omega
  subst bq;have Ki:=mI ((List.range n).map fun (x:Nat)=>(x:Int)) acc (XF _ _ List.nodup_range fun a _ b _ h=>by omega) fun x hx=>by
   obtain ⟨y,hy,rfl⟩:=bY.1 hx;rw [jg] at hy;obtain ⟨p,p1,p2⟩:=h.cv (y:Int) (by omega) (by omega);obtain ⟨j,hj,hjp⟩:=FZ.1 p1;exact (k5 _).2 ⟨j,hj,p,by rw [aT hj,hjp],p2⟩
  rw [dY,sU] at Ki;rw [show acc.length=n from by omega]
theorem sJ (h1:1<=n) (x:Int) (h0:0<=x) (hx:x<n):∃(j:Nat) (p:Int × FT),Fs[j]?=some p/\x∈p.1::p.2.vs/\oh (((n:Int),yj Fs),x)=some ((j:Int),()):=by
 have hm:maxLen=9223372036854775807:=by decide
 have dH:=h.size;have htl:=Dt Fs;show ∃(j:Nat) (p:Int × FT),_/\_/\Pp BIG _=_;rw [atK,amm hE h dQ h1,ae];simp only [bC,ax];refine dW (x:=(0:Int)) (P:=fun o=>∃(j:Nat) (p:Int × FT),Fs[j]?=some p/\x∈p.1::p.2.vs/\o=some ((j:Int),())) (fun (s:Int)=>∃i:Nat,s=(i:Int)/\i<=Fs.length/\∀j p,j<i->Fs[j]?=some p->x∉p.1::p.2.vs) (fun s=>Fs.length-s.toNat)
  (fun _ (b:Unit ⊕ Int)=>∃(j:Nat) (p:Int × FT),Fs[j]?=some p/\x∈p.1::p.2.vs/\b = .inr (j:Int)) (by simp [BIG];omega) ⟨0,rfl,by omega,fun j p hj=>by omega⟩ (fun self s Cj hs => ?_) (fun b hb => ?_)
 ·obtain ⟨i,rfl,k2,k3⟩:=Cj;by_cases hi:i<Fs.length
  ·have hp:=aT hi;generalize hpe:Fs[i]=p at hp;have hl:=((h.gt p (eZ hp)).trok dQ).len;simp only [show ((i:Int)<((yj Fs).length:Int)) from by omega,decide_true,ai];rw [aH (by omega),wD hp,ae,zW _ _ (by rw [yf];omega),ae,bV (by omega)];by_cases bq:x∈tr p.1 p.2
   ·simp only [ak bq,ai];exact ⟨_,rfl,i,p,hp,(yg _ _ _).1 bq,rfl⟩
   ·simp only [aA bq,ax];refine hs _ ⟨i+1,rfl,hi,fun j q hj hq => ?_⟩ (by simp;omega);by_cases iA:j=i
    ·subst iA;rw [hp] at hq;cases hq;rw [<-yg];exact bq
    ·exact k3 j q (by omega) hq
  ·exfalso;obtain ⟨p,p1,p2⟩:=h.cv x h0 hx;obtain ⟨j,hj,hjp⟩:=FZ.1 p1;exact k3 j p (by omega) (by rw [aT hj,hjp]) p2
 ·obtain ⟨j,p,h1,h2,rfl⟩:=hb;exact ⟨j,p,h1,h2,rfl⟩
end
def gE (L:aa aD):aa Ed:=L.map fun x=>(x.1,x.2.1)
def qm (L:aa aD):aa Ed:=(L.filter fun x=>x.2.2.2).map fun x=>(x.1,x.2.1)
def bA (n:Nat) (L:aa aD) (k:Int) (v:Int):Int:=(labs n (aN L k)).getD v.toNat 0
def cmp (n:Nat) (L:aa aD) (k:Int) (v:Int):Nat:=(labs n (aN L k)).count (bA n L k v)
structure WOk (n:Nat) (L:List aD):Prop where
 gr:jZ n (gE L)=true
 lv:∀x,x∈L->0<=x.2.2.1/\x.2.2.1<=4
 nc:NoCyc (aN L 0)
 un:∀x,x∈L->x.2.2.2=false->bA n L x.2.2.1 x.1=bA n L x.2.2.1 x.2.1
 sz:∀k:Nat,1<=k->k<=4->∀e,e∈aN L k->cmp n L k e.1<=n / 2 ^ k
theorem SQ (L:aa aD) (k:Int):(aN L k).Sublist (gE L):=List.Sublist.map _ XX
theorem ac2 (L:aa aD):(qm L).Sublist (gE L):=List.Sublist.map _ XX
theorem vT {L:aa aD} {j k:Int} (h:j<=k):∀e,e∈aN L k->e∈aN L j:=by
 intro e he;unfold aN at he ⊢;rw [bY] at he ⊢;obtain ⟨x,h1,h2⟩:=he;refine ⟨x,?_,h2⟩;simp only [jQ,aU,decide_eq_true_eq] at h1 ⊢;exact ⟨h1.1,h1.2.1,by omega⟩
theorem arj {L:aa aD} (h:∀x,x∈L->0<=x.2.2.1/\x.2.2.1<=4):qm L=aN L 0:=by
 unfold qm aN;congr 1;apply List.filter_congr;intro x hx;rw [ak (h x hx).1,wL]
section
variable {n:Nat} {L:aa aD} (hg:jZ n (gE L)=true)
include hg
theorem zX:1<=n/\n<=12:=by
 unfold jZ at hg;rw [aU,aW] at hg;omega
theorem kr:(∀e,e∈gE L->eG n e=true)/\(gE L).Nodup/\L.length<=66:=by
 unfold jZ at hg;rw [aU] at hg;obtain ⟨h1,h2,h3⟩:=lw hg.2;refine ⟨h1,h2.imp fun {a b} h => ?_,by unfold gE at h3;rwa [dY] at h3⟩;rintro rfl;unfold lsB at h;simp at h
theorem G9 (k:Int):(∀e,e∈aN L k->eG n e=true)/\(aN L k).Nodup/\(aN L k).length<=66:=by
 obtain ⟨h1,h2,h3⟩:=kr hg;refine ⟨fun e he=>h1 e ((SQ L k).subset he),h2.sublist (SQ L k),?_⟩;have:=(SQ L k).length_le;unfold gE at this;rw [dY] at this;omega
theorem jE (k:Int):o8 n (aN L k):=fun e he=>by
 have:=fQ ((G9 hg k).1 e he)
 exact ⟨this.1,this.2.1,this.2.2.1,this.2.2.2.1⟩
theorem lC (k:Int) {u v:Int} (hu:0<=u/\u<n) (hv:0<=v/\v<n):bA n L k u=bA n L k v↔Con (aN L k) u v:=by
 have hl:=lu (jE hg k);have:=hl.iff (getD_at (show u.toNat<(labs n (aN L k)).length by rw [dV];omega)) (getD_at (show v.toNat<(labs n (aN L k)).length by rw [dV];omega));rw [jL hu.1,jL hv.1] at this;exact this
end
theorem afE (n:Int) (L:aa aD) (k:Int) (hL:L.length<=1048576):GQ ((n,L),k)=some (aN L k,()):=by
 rw [<-abu n L k hL];show QE BIG _=CR BIG _;rw [aul,ZL];all_goals rfl
theorem aj3 (n:Int) (L:aa aD) (hL:L.length<=1048576):EY (n,L)=some (qm L,()):=by
 have hm:maxLen=9223372036854775807:=by decide
 have df:∀L:aa aD,(qm L).length<=L.length:=fun L=>by
  unfold qm;rw [dY];exact qX _ _
 show EX BIG _=_;rw [ai7];refine dW (x:=([],(0:Int))) (P:=fun o=>o=some (qm L,())) (fun (s:aa Ed × Int)=>∃i:Nat,s.2=i/\i<=L.length/\s.1=qm (L.take i)) (fun s=>L.length-s.2.toNat)
  (fun _ (V:aa Ed)=>V=qm L) (by simp [BIG];omega) ⟨0,rfl,by omega,rfl⟩ (fun self s hx hs => ?_) (fun V hV=>by rw [hV])
 obtain ⟨s,j⟩:=s;obtain ⟨i,h1,h2,h3⟩:=hx;simp only at h1 h2 h3 hs ⊢;subst h1;by_cases hi:i<L.length
 ·have aCu:=df (L.take i);rw [iD] at aCu;simp only [show ((i:Int)<(L.length:Int)) from by omega,decide_true,ai];rw [aH hi,aT hi,ae,bV (by omega)];have hn:qm (L.take (i+1))=qm (L.take i)++(if L[i].2.2.2=true then [(L[i].1,L[i].2.1)] else []):=by
   unfold qm;rw [rO hi,RO,uN];congr 1;by_cases h1:L[i].2.2.2=true<;>simp [h1]
  cases ht:L[i].2.2.2 with
  | false=>
   rw [ax,ae];exact hs _ ⟨i+1,rfl,hi,by simp only;rw [hn,if_neg (by rw [ht];simp),nz,h3]⟩ (by simp;omega)
  | true=>
   rw [ai,ak (by rw [h3];simp only [bI,bS];omega),ai,ae];exact hs _ ⟨i+1,rfl,hi,by simp only;rw [hn,if_pos ht,h3]⟩ (by simp;omega)
 ·simp only [show ¬((i:Int)<(L.length:Int)) from by omega,decide_false,ax];have:i=L.length:=by omega
  subst this;exact ⟨_,rfl,by rw [h3,nN]⟩
theorem uI {n:Nat} (L:aa aD) (k:Int) (dQ:n<=12) (hL:L.length<=1048576) (hE:o8 n (aN L k)):oC (((n:Int),L),k)=some (labs n (aN L k),()):=by
 have hm:maxLen=9223372036854775807:=by decide
 have Cn:=ac0 L k;show I7 BIG _=_;rw [al4,ME n (by omega),ae,afE _ _ _ hL,ae];generalize aN L k=E at hE Cn ⊢;refine dW (x:=(qa n,(0:Int))) (P:=fun o=>o=some (labs n E,())) (fun (s:aa Int × Int)=>∃i:Nat,s.2=i/\i<=E.length/\s.1=labs n (E.take i)) (fun s=>E.length-s.2.toNat)
  (fun _ (V:aa Int)=>V=labs n E) (by simp [BIG];omega) ⟨0,rfl,by omega,rfl⟩ (fun self s hx hs => ?_) (fun V hV=>by rw [hV])
 obtain ⟨s,j⟩:=s;obtain ⟨i,h1,h2,h3⟩:=hx;simp only at h1 h2 h3 hs ⊢;subst h1 h3;by_cases hi:i<E.length
 ·have he:=hE _ (nM hi);have hll:=dV n (E.take i);simp only [show ((i:Int)<(E.length:Int)) from by omega,decide_true,ai];rw [aH hi,aT hi,ae,MF _ _ _ he.1 (by omega) he.2.2.1 (by omega) (by omega),ae,bV (by omega)];refine hs _ ⟨i+1,rfl,hi,?_⟩ (by simp;omega);simp only;unfold labs;rw [rO hi,pR];rfl
 ·simp only [show ¬((i:Int)<(E.length:Int)) from by omega,decide_false,ax];have:i=E.length:=by omega
  subst this;exact ⟨_,rfl,by rw [nN]⟩
theorem XG (l:aa Int) (c:Int) (hl:l.length<=1048576):EZ (l,c)=some ((l.count c:Int),()):=by
 have hm:maxLen=9223372036854775807:=by decide
 show Xq BIG _=_;rw [awL];refine dW (x:=((0:Int),(0:Int))) (P:=fun o=>o=some ((l.count c:Int),())) (fun (s:Int × Int)=>∃i:Nat,s.2=i/\i<=l.length/\s.1=((l.take i).count c:Int)) (fun s=>l.length-s.2.toNat)
  (fun _ (V:Int)=>V=(l.count c:Int)) (by simp [BIG];omega) ⟨0,rfl,by omega,by simp⟩ (fun self s hx hs => ?_) (fun V hV=>by rw [hV])
 obtain ⟨s,j⟩:=s;obtain ⟨i,h1,h2,h3⟩:=hx;simp only at h1 h2 h3 hs ⊢;subst h1 h3;by_cases hi:i<l.length
 ·have hc:(l.take i).count c<=(l.take i).length:=List.count_le_length;rw [iD] at hc;simp only [show ((i:Int)<(l.length:Int)) from by omega,decide_true,ai];rw [aH hi,aT hi,ae];have hn:(l.take (i+1)).count c=(l.take i).count c+(if l[i]=c then 1 else 0):=by
   rw [rO hi,List.count_append,List.count_singleton];by_cases h:l[i]=c<;>simp [h]
  by_cases h:l[i]=c
  ·rw [ak h,ai,bV (i:=List.count c (List.take i l)) (by omega),ae,bV (i:=i) (by omega)];exact hs _ ⟨i+1,rfl,hi,by simp only;rw [hn,if_pos h]⟩ (by simp;omega)
  ·rw [aA h,ax,ae,bV (i:=i) (by omega)];exact hs _ ⟨i+1,rfl,hi,by simp only;rw [hn,if_neg h,qd]⟩ (by simp;omega)
 ·simp only [show ¬((i:Int)<(l.length:Int)) from by omega,decide_false,ax];have:i=l.length:=by omega
  subst this;exact ⟨_,rfl,by rw [nN]⟩
section
variable {n:Nat} {L:aa aD} (hg:jZ n (gE L)=true)
include hg
theorem ark (k:Nat) (hk:k<=4):Mg (((n:Int),L),(k:Int))=some (decide (∀e,e∈aN L k->cmp n L k e.1<=n / 2 ^ k),()):=by
 have hm:maxLen=9223372036854775807:=by decide
 obtain ⟨h1,dQ⟩:=zX hg;obtain ⟨_,_,hL⟩:=kr hg;obtain ⟨hE,hEn,hEl⟩:=G9 hg k;have hll:=dV n (aN L k);show Mf BIG _=_;rw [aqQ,uI L k dQ (by omega) (jE hg k),ae,afE _ _ _ (by omega),ae];simp only;rw [yh (aN L k) (by omega) (fun e=>decide (n / 2 ^ k<cmp n L k e.1)) false (fun self i y hy => ?_) (fun self=>by simp)]
 ·by_cases h:∀e,e∈aN L k->cmp n L k e.1<=n / 2 ^ k
  ·rw [ak h,if_neg]
   ·rfl
   ·intro h';obtain ⟨y,hy,hp⟩:=nO.1 h';rw [decide_eq_true_eq] at hp;have:=h y hy;omega
  ·rw [aA h,if_pos]
   ·rfl
   ·apply yV;intro eF;refine h fun e he => ?_
    apply yV;intro bU;exact eF (nO.2 ⟨e,he,by rw [decide_eq_true_eq];omega⟩)
 ·have hi:=(bf hy).1;have he:=fQ (hE y (eZ hy));simp only [show ((i:Int)<((aN L k).length:Int)) from by omega,decide_true,ai];rw [aH hi,hy,ae,bW he.1 (by omega),getD_at (by omega),ae,XG _ _ (by omega),ae,aA (by omega),ax,bV (by omega)];have h64:Nat.min (Int.toNat (k:Int)) (IntKind.bits .i64)=k:=by
   rw [iB];exact Nat.min_eq_left (by show k<=64;omega)
  have axm:Int.fdiv (n:Int) (2 ^ (Nat.min (Int.toNat (k:Int)) (IntKind.bits .i64)))=((n / 2 ^ k:Nat):Int):=by
   rw [h64,Int.fdiv_eq_ediv_of_nonneg _ (by exact_mod_cast wN (2 ^ k))];simp
  rw [axm];show (bif decide (((n / 2 ^ k:Nat):Int)<(cmp n L k y.1:Int)) then _ else _)=_;by_cases hc:n / 2 ^ k<cmp n L k y.1
  ·rw [ak (by omega),ak hc];rfl
  ·rw [aA (by omega),aA hc];rfl
end
theorem FD (n:Int) (L:aa aD) (hL:L.length<=1048576):∃b,zU (n,L)=some (b,())/\(b=true↔0<=n/\WOk n.toNat L):=by
 have hm:maxLen=9223372036854775807:=by decide
 show ∃b,Xt BIG _=_/\_;have hG:mg (n,L)=some ((n,gE L),()):=Dc n L hL;rw [awN,hG,ae,abj _ _ (by unfold gE;rw [dY];exact hL),ae];by_cases hg:jZ n (gE L)=true;case neg=>
  rw [show jZ n (gE L)=false by simpa using hg];simp only [ib,ai,ae];refine ⟨false,rfl,⟨(fun h=>by cases h),fun ⟨h1,h2⟩ => ?_⟩⟩;have:=h2.gr;rw [jL h1] at this;exact absurd this hg
 obtain ⟨m,rfl⟩:∃m:Nat,n=(m:Int):=by
  have:1<=n:=by
   have h:=hg;unfold jZ at h;rw [aU,aW] at h;omega
  exact ⟨n.toNat,by omega⟩
 rw [hg,iB];obtain ⟨h1,dQ⟩:=zX hg;obtain ⟨mM,V8,RB⟩:=kr hg;simp only [bC,ax];rw [aj3 _ _ hL,ae];have htl:(qm L).length<=66:=by
  have:=(ac2 L).length_le;unfold gE at this;rw [dY] at this;omega
 obtain ⟨b,b1,b2⟩:=awT m (qm L) h1 dQ (by omega) (fun e he=>mM e ((ac2 L).subset he));rw [awU (V8.sublist (ac2 L))] at b2;rw [b1,ae,ae];cases b with
 | true=>
  rw [ai];refine ⟨false,rfl,⟨(fun h=>by cases h),fun ⟨_,h2⟩ => ?_⟩⟩;have:=h2.nc;rw [<-arj h2.lv] at this;exact absurd this (b2.1 rfl)
 | false=>
  have hnc:NoCyc (qm L):=by
   apply yV;intro h;have:=b2.2 h;cases this
  rw [ax];rw [yh L (by omega) (fun x=>!aY x.2.2.1 0 4 || (!x.2.2.2 && !decide (bA m L x.2.2.1 x.1=bA m L x.2.2.1 x.2.1))) false (fun self i y hy => ?_) (fun self=>by simp)]
  ·by_cases hA:L.any (fun x=>!aY x.2.2.1 0 4 || (!x.2.2.2 && !decide (bA m L x.2.2.1 x.1=bA m L x.2.2.1 x.2.1)))=true
   ·rw [if_pos hA];refine ⟨false,rfl,⟨(fun h=>by cases h),fun ⟨_,h2⟩ => ?_⟩⟩;obtain ⟨x,hx,hp⟩:=nO.1 hA;rw [show aY x.2.2.1 0 4=true from aW.2 (h2.lv x hx)] at hp;cases ht:x.2.2.2 with
    | true=>rw [ht] at hp;simp at hp
    | false=>
     rw [ht,ak (h2.un x hx ht)] at hp;simp at hp
   ·rw [if_neg hA,ae];have hlu:∀x,x∈L->(0<=x.2.2.1/\x.2.2.1<=4)/\(x.2.2.2=false->bA m L x.2.2.1 x.1=bA m L x.2.2.1 x.2.1):=by
     intro x hx;have hp:¬(!aY x.2.2.1 0 4 || (!x.2.2.2 && !decide (bA m L x.2.2.1 x.1=bA m L x.2.2.1 x.2.1)))=true:=fun h=>hA (nO.2 ⟨x,hx,h⟩)
     rw [iE,not_or] at hp;constructor
     ·have:=hp.1;cases hb:aY x.2.2.1 0 4 with
      | true=>exact aW.1 hb
      | false=>rw [hb] at this;simp at this
     ·intro ht;have:=hp.2;rw [ht] at this;by_cases hl:bA m L x.2.2.1 x.1=bA m L x.2.2.1 x.2.1
      ·exact hl
      ·rw [aA hl] at this;simp at this
    simp only;refine dW (x:=(1:Int)) (P:=fun o=>∃b,o=some (b,())/\(b=true↔0<=(m:Int)/\WOk m L)) (fun (s:Int)=>∃k:Nat,s=(k:Int)/\1<=k/\k<=5/\∀j:Nat,1<=j->j<k->∀e,e∈aN L j->cmp m L j e.1<=m / 2 ^ j) (fun s=>5-s.toNat)
     (fun _ (b:Unit ⊕ Bool)=>(b = .inl ()/\∀k:Nat,1<=k->k<=4->∀e,e∈aN L k->cmp m L k e.1<=m / 2 ^ k)\/(b = .inr false/\¬∀k:Nat,1<=k->k<=4->∀e,e∈aN L k->cmp m L k e.1<=m / 2 ^ k)) (by simp [BIG]) ⟨1,rfl,by omega,by omega,fun j h1 h2=>by omega⟩ (fun self s hx hs => ?_) (fun b hb => ?_)
    ·obtain ⟨k,rfl,k1,k2,k3⟩:=hx;by_cases hk:k<=4
     ·rw [ak (by omega),ai,ark hg k hk,ae,bV (by omega)];by_cases hc:∀e,e∈aN L k->cmp m L k e.1<=m / 2 ^ k
      ·simp only [ak hc,bC,ax];refine hs _ ⟨k+1,rfl,by omega,by omega,fun j j1 j2 => ?_⟩ (by simp;omega);by_cases hjk:j=k
       ·subst hjk;exact hc
       ·exact k3 j j1 (by omega)
      ·simp only [aA hc,ib,ai];exact ⟨_,rfl,.inr ⟨rfl,fun h=>hc (h k k1 hk)⟩⟩
     ·rw [aA (by omega),ax];exact ⟨_,rfl,.inl ⟨rfl,fun j j1 j2=>k3 j j1 (by omega)⟩⟩
    ·rcases hb with ⟨rfl,h⟩|⟨rfl,h⟩
     ·refine ⟨true,rfl,⟨fun _=>⟨by omega,hg,fun x hx=>(hlu x hx).1,?_,fun x hx=>(hlu x hx).2,h⟩,fun _=>rfl⟩⟩;rw [<-arj fun x hx=>(hlu x hx).1];exact hnc
     ·exact ⟨false,rfl,⟨(fun h=>by cases h),fun ⟨_,h2⟩=>absurd h2.sz h⟩⟩
  ·have hi:=(bf hy).1;have uL:=fQ (mM (y.1,y.2.1) (bY.2 ⟨y,eZ hy,rfl⟩));simp only at uL;simp only [show ((i:Int)<(L.length:Int)) from by omega,decide_true,ai];rw [aH hi,hy,ae,jd,ae,bV (by omega)];cases hb:aY y.2.2.1 0 4 with
   | false=>rfl
   | true=>
    have hll:=dV m (aN L y.2.2.1);simp only [bC,ax,wK];rw [uI L y.2.2.1 dQ hL (jE hg _),ae];cases ht:y.2.2.2 with
    | true=>rfl
    | false=>
     simp only [ib,ai,dZ];rw [bW uL.1 (by omega),getD_at (by omega),ae,bW uL.2.2.1 (by omega),getD_at (by omega),ae,ae];show (Option.bind (bif !decide (bA m L y.2.2.1 y.1=bA m L y.2.2.1 y.2.1) then _ else _) _)=_;cases decide (bA m L y.2.2.1 y.1=bA m L y.2.2.1 y.2.1)<;>rfl
theorem FE (n:Nat) (L:aa aD) (hL:L.length<=1048576):∃V,mY ((n:Int),L)=some (V,())/\(WOk n L->V=labs n (aN L 0))/\(¬WOk n L->V=[]):=by
 obtain ⟨b,b1,b2⟩:=FD n L hL;rw [iB] at b2;show ∃V,xW BIG _=_/\_;rw [QK,b1,ae];cases b with
 | false=>exact ⟨[],rfl,fun h=>(by have:=b2.2 ⟨by omega,h⟩;cases this),fun _=>rfl⟩
 | true=>
  have h:=(b2.1 rfl).2;have hg:=h.gr;refine ⟨labs n (aN L 0),?_,fun _=>rfl,fun hn=>absurd h hn⟩;simp only [bC,ax];rw [uI L 0 (zX hg).2 hL (jE hg 0)];rfl
theorem auW (l:aa Int) (c:Int):l.count c=((List.range l.length).filter fun i=>decide (l.getD i 0=c)).length:=by
 have h:l=(List.range l.length).map (fun i=>l.getD i 0):=by
  apply X5
  ·simp
  ·intro i h1 h2;rw [List.getElem_map,List.getElem_range,dw,aT h1];rfl
 conv=>lhs;rw [h]
 rw [List.count,List.countP_map,List.countP_eq_length_filter];congr 1
section
variable {n:Nat} {L:aa aD} (hg:jZ n (gE L)=true)
include hg
theorem ML {k:Int} {Fs:aa (Int × FT)} (hF:FoOk n (aN L k) Fs) {p:Int × FT} (hp:p∈Fs):(p.1::p.2.vs).length=cmp n L k p.1:=by
 have hE:=(G9 hg k).1;have hG:=hF.gt p hp;have NP:=hG.rg p.1 (dX ..);unfold cmp;rw [auW,dV];have hm:∀x:Int,x∈p.1::p.2.vs↔x∈((List.range n).filter fun i=>decide ((labs n (aN L k)).getD i 0=bA n L k p.1)).map fun (i:Nat)=>(i:Int):=by
  intro x;rw [bY];constructor
  ·intro hx;have hr:=hG.rg x hx;refine ⟨x.toNat,?_,by omega⟩;rw [jQ,jg,decide_eq_true_eq];refine ⟨by omega,?_⟩;exact (lC hg k hr NP).2 ((hG.con hE x).1 hx).symm
  ·rintro ⟨y,hy,rfl⟩;rw [jQ,jg,decide_eq_true_eq] at hy;refine (hG.con hE _).2 ?_;have:bA n L k (y:Int)=bA n L k p.1:=by
    unfold bA;rw [iB];exact hy.2
   exact ((lC hg k (by omega) NP).1 this).symm
 have hn2:(((List.range n).filter fun i=>decide ((labs n (aN L k)).getD i 0=bA n L k p.1)).map fun (i:Nat)=>(i:Int)).Nodup:=
  XF _ _ ((List.nodup_range (n:=n)).sublist XX) fun a _ b _ h=>by omega
 have l1:=mI _ _ hG.nd fun x hx=>(hm x).1 hx
 have l2:=mI _ _ hn2 fun x hx=>(hm x).2 hx
 rw [dY] at l1 l2;omega
theorem MM {k:Int} {u v:Int} (hu:0<=u/\u<n) (hv:0<=v/\v<n) (h:Con (aN L k) u v):cmp n L k u=cmp n L k v:=by
 unfold cmp;rw [(lC hg k hu hv).2 h]
theorem auX {k:Int} {Fs:aa (Int × FT)} (hF:FoOk n (aN L k) Fs) (B:Nat):(∀p,p∈Fs->1<(p.1::p.2.vs).length->(p.1::p.2.vs).length<=B)↔∀e,e∈aN L k->cmp n L k e.1<=B:=by
 have hE:=(G9 hg k).1;constructor
 ·intro h e he;have hr:=fQ (hE e he);obtain ⟨p,hp,hx⟩:=hF.cv e.1 hr.1 hr.2.1;have hG:=hF.gt p hp;have hc:=(hG.con hE e.1).1 hx;have RA:e.2∈p.1::p.2.vs:=(hG.con hE e.2).2 (.fwd hc he);have aZ:e.1≠e.2:=by omega
  have bP:1<(p.1::p.2.vs).length:=by
   have:=mI [e.1,e.2] (p.1::p.2.vs) (by simp [aZ]) (fun y hy=>by
    simp only [a_,tq,or_false] at hy
    rcases hy with rfl|rfl
    ·exact hx
    ·exact RA)
   simp only [bI,bS] at this ⊢;omega
  have:=h p hp bP;rw [ML hg hF hp,MM hg (hG.rg _ (dX ..)) ⟨hr.1,hr.2.1⟩ hc] at this;exact this
 ·intro h p hp bP;have hG:=hF.gt p hp;have NP:=hG.rg p.1 (dX ..);obtain ⟨u,hu⟩:∃u,u∈p.2.vs:=by
   cases hv:p.2.vs with
   | nil=>rw [hv] at bP;simp at bP
   | cons u _=>exact ⟨u,dX ..⟩
  have aZ:u≠p.1:=by
   rintro rfl;exact (nP.1 hG.nd).1 hu
  have hc:=(hG.con hE u).1 (dU _ hu);obtain ⟨x,y,d1,d2,d3⟩:=ajC (D:=fun z=>z=p.1) hc rfl aZ;subst d1;rw [ML hg hF hp];rcases d3 with d3|d3
  ·exact h _ d3
  ·have hr:=fQ (hE _ d3);simp only at hr;rw [MM hg NP ⟨hr.1,hr.2.1⟩ (.bwd (.refl _) d3)];exact h _ d3
def arl (n:Nat) (L:aa aD) (k:Nat):Prop:=NoCyc (aN L k)/\(∀e,e∈aN L k->cmp n L k e.1<=n / 2 ^ k)/\∀x,x∈L->x.2.2.2=false->x.2.2.1=k->bA n L k x.1=bA n L k x.2.1
theorem aom (lV:∀x,x∈L->0<=x.2.2.1/\x.2.2.1<=4):WOk n L↔∀k:Nat,k<5->arl n L k:=by
 constructor
 ·intro h k hk;refine ⟨h.nc.sub (vT (by omega)),?_,fun x hx ht hl => ?_⟩
  ·by_cases h0:k=0
   ·subst h0;intro e he;have:cmp n L ((0:Nat):Int) e.1<=(labs n (aN L ((0:Nat):Int))).length:=List.count_le_length;rw [dV] at this;simpa using this
   ·exact h.sz k (by omega) (by omega)
  ·have:=h.un x hx ht;rw [hl] at this;exact this
 ·intro h;refine ⟨hg,lV,(h 0 (by omega)).1,fun x hx ht => ?_,fun k k1 k2=>(h k (by omega)).2.1⟩;have hb:=lV x hx;obtain ⟨j,hj⟩:∃j:Nat,x.2.2.1=(j:Int):=⟨x.2.2.1.toNat,by omega⟩
  rw [hj];exact (h j (by omega)).2.2 x hx ht hj
end
theorem FF (n:Int) (L:aa aD) (hL:L.length<=1048576):∃b,zw (n,L)=some (b,())/\(b=true↔0<=n/\WOk n.toNat L):=by
 have hm:maxLen=9223372036854775807:=by decide
 show ∃b,WY BIG _=_/\_;have hG:mf (n,L)=some ((n,gE L),()):=yc n L hL;rw [aws,hG,ae,abk _ _ (by unfold gE;rw [dY];exact hL),ae];by_cases hg:jZ n (gE L)=true;case neg=>
  rw [show jZ n (gE L)=false by simpa using hg];simp only [ib,ai,ae];refine ⟨false,rfl,⟨(fun h=>by cases h),fun ⟨h1,h2⟩ => ?_⟩⟩;have:=h2.gr;rw [jL h1] at this;exact absurd this hg
 obtain ⟨m,rfl⟩:∃m:Nat,n=(m:Int):=by
  have:1<=n:=by
   have h:=hg;unfold jZ at h;rw [aU,aW] at h;omega
  exact ⟨n.toNat,by omega⟩
 rw [hg,iB];obtain ⟨h1,dQ⟩:=zX hg;obtain ⟨mM,V8,RB⟩:=kr hg;simp only [bC,ax];rw [yh L (by omega) (fun x=>!aY x.2.2.1 0 4) false (fun self i y hy => ?_) (fun self=>by simp)]
 ·by_cases hA:L.any (fun x=>!aY x.2.2.1 0 4)=true
  ·rw [if_pos hA];refine ⟨false,rfl,⟨(fun h=>by cases h),fun ⟨_,h2⟩ => ?_⟩⟩;obtain ⟨x,hx,hp⟩:=nO.1 hA;rw [show aY x.2.2.1 0 4=true from aW.2 (h2.lv x hx)] at hp;simp at hp
  ·rw [if_neg hA,ae];have lV:∀x,x∈L->0<=x.2.2.1/\x.2.2.1<=4:=by
    intro x hx;have hp:¬(!aY x.2.2.1 0 4)=true:=fun h=>hA (nO.2 ⟨x,hx,h⟩)
    cases hb:aY x.2.2.1 0 4 with
    | true=>exact aW.1 hb
    | false=>rw [hb] at hp;simp at hp
   simp only;refine dW (x:=((m:Int),(0:Int))) (P:=fun o=>∃b,o=some (b,())/\(b=true↔0<=(m:Int)/\WOk m L)) (fun (s:Int × Int)=>∃k:Nat,s.2=(k:Int)/\k<=5/\s.1=((m / 2 ^ k:Nat):Int)/\∀j:Nat,j<k->arl m L j) (fun s=>5-s.2.toNat)
    (fun _ (b:Unit ⊕ Bool)=>(b = .inl ()/\∀k:Nat,k<5->arl m L k)\/(b = .inr false/\¬∀k:Nat,k<5->arl m L k)) (by simp [BIG]) ⟨0,rfl,by omega,by simp,fun j h=>by omega⟩ (fun self s hx hs => ?_) (fun b hb => ?_)
   ·obtain ⟨mo,kk⟩:=s;obtain ⟨k,k1,k2,k3,k4⟩:=hx;simp only at k1 k2 k3 k4 hs ⊢;subst k1 k3;by_cases hk:k<=4
    ·obtain ⟨hE,hEn,hEl⟩:=G9 hg (k:Int);obtain ⟨r,b,r1,r2,r3⟩:=AB (n:=m) L (k:Int) h1 dQ hL hE;rw [ak (by omega),ai,r1,ae];cases b with
     | false=>
      simp only [ib,ai,ae];refine ⟨_,rfl,.inr ⟨rfl,fun h => ?_⟩⟩;have:=r2.2 (h k (by omega)).1;cases this
     | true=>
      obtain ⟨Fs,rfl,hF⟩:=r3 rfl;have htl:=Dt Fs;have dH:=hF.size;have hnc:=r2.1 rfl;simp only [bC,ax];rw [yh Fs (by omega) (fun p=>decide (1<(p.1::p.2.vs).length)&&decide (m / 2 ^ k<(p.1::p.2.vs).length)) false (fun self2 i y hy => ?_) (fun self2=>by simp [htl])]
      ·by_cases hT:Fs.any (fun p=>decide (1<(p.1::p.2.vs).length)&&decide (m / 2 ^ k<(p.1::p.2.vs).length))=true
       ·rw [if_pos hT];refine ⟨_,rfl,.inr ⟨rfl,fun h => ?_⟩⟩;obtain ⟨p,hp,hq⟩:=nO.1 hT;rw [aU,decide_eq_true_eq,decide_eq_true_eq] at hq;have:=(auX hg hF _).2 (h k (by omega)).2.1 p hp hq.1;omega
       ·rw [if_neg hT,ae];have aGv:=(auX hg hF (m / 2 ^ k)).1 fun p hp hq=>by
         apply yV;intro bU;exact hT (nO.2 ⟨p,hp,by rw [aU,decide_eq_true_eq,decide_eq_true_eq];omega⟩)
        simp only;rw [yh L (by omega) (fun x=>!x.2.2.2&&(decide (x.2.2.1=(k:Int)) && !decide (bA m L k x.1=bA m L k x.2.1))) false (fun self3 i y hy => ?_) (fun self3=>by simp)]
        ·by_cases hU:L.any (fun x=>!x.2.2.2&&(decide (x.2.2.1=(k:Int)) && !decide (bA m L k x.1=bA m L k x.2.1)))=true
         ·rw [if_pos hU];refine ⟨_,rfl,.inr ⟨rfl,fun h => ?_⟩⟩;obtain ⟨x,hx,hq⟩:=nO.1 hU;simp only [aU,sV,decide_eq_true_eq,decide_eq_false_iff_not] at hq;exact hq.2.2 ((h k (by omega)).2.2 x hx hq.1 hq.2.1)
         ·rw [if_neg hU,ae];simp only;rw [aA (by omega),ax,ae];have axm:IntKind.wrap .i64 (Int.tdiv ((m / 2 ^ k:Nat):Int) 2)=((m / 2 ^ (k+1):Nat):Int):=by
           have h0:m / 2 ^ k<=m:=Nat.div_le_self ..;have h2:Int.tdiv ((m / 2 ^ k:Nat):Int) 2=((m / 2 ^ (k+1):Nat):Int):=by
            rw [Nat.pow_succ,<-Nat.div_div_eq_div_mul];rfl
           have h3:m / 2 ^ (k+1)<=m:=Nat.div_le_self ..;have h4:(0:Int)<=((m / 2 ^ (k+1):Nat):Int):=XZ _;rw [h2,wr (by omega) (by omega)]
          simp only;rw [axm,bV (by omega)];refine hs _ ⟨k+1,rfl,by omega,rfl,fun j hj => ?_⟩ (by simp;omega);by_cases hjk:j=k
          ·subst hjk;refine ⟨hnc,aGv,fun x hx ht hl => ?_⟩;apply yV;intro aZ;refine hU (nO.2 ⟨x,hx,?_⟩);rw [ht,ak hl,aA aZ];rfl
          ·exact k4 j (by omega)
        ·have hi:=(bf hy).1;have uL:=fQ (mM (y.1,y.2.1) (bY.2 ⟨y,eZ hy,rfl⟩));simp only at uL;obtain ⟨ja,pa,a1,a2,a3⟩:=sJ hE hF dQ h1 y.1 uL.1 uL.2.1;obtain ⟨jb,pb,b1,b2,b3⟩:=sJ hE hF dQ h1 y.2.1 uL.2.2.1 uL.2.2.2.1;have MU:((ja:Int)=(jb:Int))↔bA m L k y.1=bA m L k y.2.1:=by
          rw [lC hg (k:Int) ⟨uL.1,uL.2.1⟩ ⟨uL.2.2.1,uL.2.2.2.1⟩];constructor
          ·intro h;have:ja=jb:=by omega
           subst this;rw [a1,aO] at b1;subst b1;have hG:=hF.gt pa (eZ a1);exact ((hG.con hE _).1 a2).symm.trans ((hG.con hE _).1 b2)
          ·intro h;have:=hF.idx hE a1 b1 a2 b2 h;omega
         simp only [show ((i:Int)<(L.length:Int)) from by omega,decide_true,ai];rw [aH hi,hy,ae,bV (by omega)];cases ht:y.2.2.2 with
         | true=>rfl
         | false=>
          simp only [ib,ai,dZ];by_cases hl:y.2.2.1=(k:Int)
          ·rw [ak hl,ai,a3,ae,b3,ae,ae];by_cases hq:bA m L k y.1=bA m L k y.2.1
           ·rw [ak hq,ak (MU.2 hq)];rfl
           ·rw [aA hq,aA (fun h=>hq (MU.1 h))];rfl
          ·rw [aA hl,ax];rfl
      ·have hi:=(bf hy).1;obtain ⟨V,v1,_,_,v4,_,v6⟩:=hF.verts dQ (eZ hy);rw [ak (by omega),ai,aH (by omega),wD hy,ae,v1,ae,bV (by omega)];simp only;rw [<-v4];by_cases c1:1<V.length
       ·rw [ak (show ((1:Int)<(V.length:Int)) by omega),ak c1,ai,ae,dZ];by_cases c2:m / 2 ^ k<V.length
        ·rw [ak (by omega),ak c2];rfl
        ·rw [aA (by omega),aA c2];rfl
       ·rw [aA (show ¬((1:Int)<(V.length:Int)) by omega),aA c1];rfl
    ·rw [aA (by omega),ax];exact ⟨_,rfl,.inl ⟨rfl,fun j hj=>k4 j (by omega)⟩⟩
   ·rcases hb with ⟨rfl,h⟩|⟨rfl,h⟩
    ·exact ⟨true,rfl,⟨fun _=>⟨by omega,(aom hg lV).2 h⟩,fun _=>rfl⟩⟩
    ·exact ⟨false,rfl,⟨(fun h=>by cases h),fun ⟨_,h2⟩=>absurd ((aom hg lV).1 h2) h⟩⟩
 ·have hi:=(bf hy).1;simp only [show ((i:Int)<(L.length:Int)) from by omega,decide_true,ai];rw [aH hi,hy,ae,dM,ae,bV (by omega)];cases aY y.2.2.1 0 4<;>rfl
theorem FH (n:Nat) (L:aa aD) (hL:L.length<=1048576):∃V,mX ((n:Int),L)=some (V,())/\(WOk n L->V=labs n (aN L 0))/\(¬WOk n L->V=[]):=by
 have hm:maxLen=9223372036854775807:=by decide
 obtain ⟨b,b1,b2⟩:=FF n L hL;rw [iB] at b2;show ∃V,xO BIG _=_/\_;rw [Px,b1,ae];cases b with
 | false=>exact ⟨[],rfl,fun h=>(by have:=b2.2 ⟨by omega,h⟩;cases this),fun _=>rfl⟩
 | true=>
  have h:=(b2.1 rfl).2;have hg:=h.gr;obtain ⟨h1,dQ⟩:=zX hg;obtain ⟨hE,hEn,hEl⟩:=G9 hg 0;obtain ⟨r,b',r1,r2,r3⟩:=AB (n:=n) L 0 h1 dQ hL hE;obtain ⟨Fs,rfl,hF⟩:=r3 (r2.2 h.nc);have hll:=dV n (aN L 0);have akQ:=lu (jE hg 0);refine ⟨labs n (aN L 0),?_,fun _=>rfl,fun hn=>absurd h hn⟩;simp only [bC,ax];rw [r1,ae];simp only;refine dW (x:=([],(0:Int))) (P:=fun o=>o=some (labs n (aN L 0),())) (fun (s:aa Int × Int)=>∃i:Nat,s.2=i/\i<=n/\s.1=(labs n (aN L 0)).take i) (fun s=>n-s.2.toNat)
   (fun _ (V:aa Int)=>V=labs n (aN L 0)) (by simp [BIG];omega) ⟨0,rfl,by omega,by simp⟩ (fun self s hx hs => ?_) (fun V hV=>by rw [hV])
  obtain ⟨s,j⟩:=s;obtain ⟨i,k1,k2,k3⟩:=hx;simp only at k1 k2 k3 hs ⊢;subst k1 k3;by_cases hi:i<n
  ·obtain ⟨j,p,p1,p2,p3⟩:=sJ hE hF dQ h1 (i:Int) (by omega) (by omega);have uK:=(bf p1).1;have kJ:=eZ p1;have hG:=hF.gt p kJ;obtain ⟨V,v1,_,_,v4,v5,v6⟩:=hF.verts dQ kJ;have htl:=Dt Fs;rw [ak (by omega),ai,p3,ae,aH (by omega),wD p1,ae,v1,ae];have hV0:0<V.length:=by rw [v4];simp
   rw [bW (by omega) (by simp only;omega),show Int.toNat 0=0 from rfl];simp only;rw [v5,ae,ak (by simp only [iD,bI,bS];omega),ai,bV (by omega)];have hgi:=aT (show i<(labs n (aN L 0)).length by omega);have ac8:=akQ.2 i _ hgi;have hc:Con (aN L 0) i p.1:=((hG.con hE _).1 p2).symm;have e1:(labs n (aN L 0))[i]=p.1:=by
    have l1:=ac8.2.2 p.1 (hG.rg _ (dX ..)).1 hc;have l2:=hF.mn p kJ _ ((hG.con hE _).2 (hc.symm.trans ac8.1));omega
   refine hs _ ⟨i+1,rfl,by omega,?_⟩ (by simp;omega);simp only;rw [rO (by omega),e1]
  ·rw [aA (by omega),ax];have:i=n:=by omega
   subst this;exact ⟨_,rfl,by rw [RI (by omega)]⟩
theorem afF (x0 x1:Int) (x2:aa aD) (y:An) (h2:x2.length<=1048576) (h5:y.2.2.1.length<=1048576) (h6:y.2.2.2.length<=1048576) :
  ∃b,C9 (x0,x1,x2,y)=some (b,())/\CU (x0,x1,x2,y)=some (b,())/\(b=true↔(1<=x0/\x0<=3)/\0<=x1/\WOk x1.toNat x2/\(blA y=true\/qc x1 y=true/\y.2.2.2=labs x1.toNat (aN x2 0))):=by
 have hm:maxLen=9223372036854775807:=by decide
 show ∃b,Mh BIG _=_/\LA BIG _=_/\_;rw [aqS,aqf,jd,dM,ae,ae];by_cases h0:aY x0 1 3=true;case neg=>
  rw [show aY x0 1 3=false by simpa using h0];exact ⟨false,rfl,rfl,⟨(fun h=>by cases h),fun h=>absurd (aW.2 h.1) h0⟩⟩
 rw [h0];obtain ⟨b,b1,b2⟩:=FD x1 x2 h2;obtain ⟨b',b1',b2'⟩:=FF x1 x2 h2;have RF:b'=b:=by
  cases b<;>cases b'<;>simp_all
 subst RF;simp only [bC,ax,b1,b1',ae];cases b' with
 | false=>
  refine ⟨false,rfl,rfl,⟨(fun h=>by cases h),fun h => ?_⟩⟩;have:=b2.2 ⟨h.2.1,h.2.2.1⟩;cases this
 | true=>
  obtain ⟨n0,hw⟩:=b2.1 rfl;simp only [bC,ax];rw [amf,amg _ (by omega) (by omega),ae,ae];cases hb:blA y with
  | true=>exact ⟨true,rfl,rfl,⟨fun _=>⟨aW.1 h0,n0,hw,.inl rfl⟩,fun _=>rfl⟩⟩
  | false=>
   simp only [ax];rw [VL _ _ h5 h6,VM _ _ h5 h6,ae,ae];cases ha:qc x1 y with
   | false=>exact ⟨false,rfl,rfl,⟨(fun h=>by cases h),fun h=>by
     rcases h.2.2.2 with h|⟨h,_⟩<;>cases h⟩⟩
   | true=>
    obtain ⟨m,rfl⟩:∃m:Nat,x1=(m:Int):=⟨x1.toNat,by omega⟩
    rw [iB] at hw ⊢;obtain ⟨V,v1,v2,_⟩:=FE m x2 h2;obtain ⟨V',v1',v2',_⟩:=FH m x2 h2;rw [v2 hw] at v1;rw [v2' hw] at v1';simp only [ai];rw [v1,v1',ae,ae,ami _ _ (by omega),tT _ _ (by omega),ae,ae];refine ⟨_,rfl,rfl,?_⟩;rw [decide_eq_true_eq];exact ⟨fun h=>⟨aW.1 h0,n0,hw,.inr ⟨by trivial,h⟩⟩,fun h=>by
     rcases h.2.2.2 with h|⟨_,h⟩
     ·cases h
     ·exact h⟩
def uf (L:aa aD) (p:aD->Nat) (rz hz:aD->aD):aa aD × ah (Nat × aD):=
 if h:L.findIdx (fun y=>decide (p y=2))<L.length then
  ((L.take (L.findIdx fun y=>decide (p y=2))).map (fun y=>if p y=1 then rz y else y)++hz L[L.findIdx fun y=>decide (p y=2)]::L.drop (L.findIdx (fun y=>decide (p y=2))+1),some (L.findIdx (fun y=>decide (p y=2)),hz L[L.findIdx fun y=>decide (p y=2)]))
 else (L.map fun y=>if p y=1 then rz y else y,none)
theorem set_mid {α:Type} (a:aa α) (x y:α) (b:aa α):(a++x::b).set a.length y=a++y::b:=by
 rw [List.set_append_right _ _ (eY _),Nat.sub_self];rfl
theorem Du {A B:Type} {o:ah A} {v:A} (h:o=some v) (f:A->ah B):Option.bind o f=f v:=by rw [h];rfl
theorem abv {X B:Type} (L:aa aD) (hl:L.length<=1048576) (p:aD->Nat) (rz hz:aD->aD) (mk:aa aD->Nat->X) (ix:X->Nat) (hix:∀l i,ix (mk l i)=i) (fin:aa aD->B) (hit:aa aD->Nat->aD->B) {F:(X->ah B)->X->ah B}
  (hF:∀self (out:aa aD) (i:Nat) y,out.length=L.length->L[i]?=some y->out[i]?=some y->F self (mk out i)=if p y=2 then some (hit (out.set i (hz y)) i (hz y)) else self (mk (out.set i (if p y=1 then rz y else y)) (i+1)))
  (hE:∀self (out:aa aD),out.length=L.length->F self (mk out L.length)=some (fin out)) :
  aK BIG F (mk L 0)=some (match (uf L p rz hz).2 with|none=>fin (uf L p rz hz).1|some (j,y)=>hit (uf L p rz hz).1 j y):=by
 refine kI (fun x=>∃i:Nat,i<=L.length/\x=mk ((L.take i).map (fun y=>if p y=1 then rz y else y)++L.drop i) i/\∀j y,j<i->L[j]?=some y->p y≠2) (fun x=>L.length-ix x) (fun _=>_) (fun self x ⟨i,h1,h2,h3⟩ hs => ?_) (n:=BIG) (x:=mk L 0) (by rw [hix];simp [BIG];omega) ⟨0,by omega,by simp,fun j y h=>by omega⟩;subst h2;have bP:((L.take i).map (fun y=>if p y=1 then rz y else y)++L.drop i).length=L.length:=by
  simp only [dR,dY,iD,sZ];omega
 have htl:((L.take i).map (fun y=>if p y=1 then rz y else y)).length=i:=by
  simp only [dY,iD];omega
 by_cases hi:i<L.length
 ·have hy:=aT hi;have hd:L.drop i=L[i]::L.drop (i+1):=u6 hi;have ho:((L.take i).map (fun y=>if p y=1 then rz y else y)++L.drop i)[i]?=some L[i]:=by
   rw [uZ (by omega),htl,Nat.sub_self,hd];rfl
  have Jf:∀z,((L.take i).map (fun y=>if p y=1 then rz y else y)++L.drop i).set i z=(L.take i).map (fun y=>if p y=1 then rz y else y)++z::L.drop (i+1):=by
   intro z;have:=set_mid ((L.take i).map (fun y=>if p y=1 then rz y else y)) L[i] z (L.drop (i+1));rw [htl] at this;rw [hd];exact this
  rw [hF self _ i L[i] bP hy ho];by_cases hp:p L[i]=2
  ·rw [if_pos hp,Jf];have hfi:L.findIdx (fun y=>decide (p y=2))=i:=by
    rw [List.findIdx_eq hi];refine ⟨by simpa using hp,fun j hj => ?_⟩;have:=h3 j L[j] hj (aT (by omega));simpa using this
   unfold uf;rw [dif_pos (by rw [hfi];exact hi)];simp only [hfi]
  ·rw [if_neg hp];refine hs _ ⟨i+1,hi,?_,fun j y hj hjy => ?_⟩ (by rw [hix,hix];omega)
   ·rw [Jf,rO hi,uN,lW];rfl
   ·by_cases iA:j=i
    ·subst iA;rw [hy] at hjy;cases hjy;exact hp
    ·exact h3 j y (by omega) hjy
 ·have bq:i=L.length:=by omega
  subst bq;rw [hE self _ bP];have eF:¬L.findIdx (fun y=>decide (p y=2))<L.length:=by
   intro bU;have h1:=XW (w:=bU);have:=h3 _ _ bU (aT bU);exact this (by simpa using h1)
  unfold uf;rw [dif_neg eF];simp
def Rk (k:Int):Int:=if 4<k+1 then 4 else k+1
def kY (k:Int) (x:aD):aD:=(x.1,x.2.1,Rk k,x.2.2.2)
def G_ (x:aD):aD:=(x.1,x.2.1,x.2.2.1,true)
def lQ (s:Int->Bool) (k:Int) (x:aD):Nat:=if x.2.2.2=true/\x.2.2.1=k/\s x.1=true then 1 else 0
def gq (s:Int->Bool) (k:Int) (x:aD):Nat:=if x.2.2.2=true\/x.2.2.1≠k\/(s x.1=false/\s x.2.1=false) then 0 else if s x.1=true/\s x.2.1=true then 1 else 2
def sch (n:Nat) (L:aa aD) (e:Ed) (k:Int):aa aD × ah (Nat × aD):=
 let c:=if cmp n L k e.2<cmp n L k e.1 then bA n L k e.2 else bA n L k e.1
 uf ((uf L (lQ (fun x=>decide (bA n L k x=c)) k) (kY k) G_).1) (gq (fun x=>decide (bA n L k x=c)) k) (kY k) G_
theorem Kc {L:aa aD} {p:aD->Nat} {rz hz:aD->aD} (h:∀y,p y≠2):uf L p rz hz=(L.map fun y=>if p y=1 then rz y else y,none):=by
 unfold uf;rw [dif_neg];intro bU;have h1:=XW (w:=bU);exact h _ (by simpa using h1)
theorem aon (L:aa aD) (p:aD->Nat) (rz hz:aD->aD):(uf L p rz hz).1.length=L.length:=by
 unfold uf;split
 ·rename_i h;simp only [dR,dY,iD,bI,sZ];omega
 ·simp
theorem Ha (s:Int->Bool) (k:Int):∀y,lQ s k y≠2:=fun y=>by unfold lQ;split<;>omega
theorem auY {L:aa aD} {p:aD->Nat} {rz hz:aD->aD} (h1:∀y,((rz y).1,(rz y).2.1)=(y.1,y.2.1)) (h2:∀y,((hz y).1,(hz y).2.1)=(y.1,y.2.1)):gE (uf L p rz hz).1=gE L:=by
 unfold uf gE;split
 ·rename_i h;have:L=L.take (L.findIdx fun y=>decide (p y=2))++L[L.findIdx fun y=>decide (p y=2)]::L.drop (L.findIdx (fun y=>decide (p y=2))+1):=by
   conv=>lhs;rw [<-Kr (L.findIdx fun y=>decide (p y=2)) L,u6 h]
  conv=>rhs;rw [this]
  simp only [uN,bz,AJ,h2];congr 1;apply RJ;intro y _;simp only [Function.comp];split
  ·exact h1 y
  ·rfl
 ·rw [AJ];apply RJ;intro y _;simp only [Function.comp];split
  ·exact h1 y
  ·rfl
theorem aoo {L:aa aD} {p:aD->Nat} {rz hz:aD->aD} (h1:∀y,((rz y).1,(rz y).2.1)=(y.1,y.2.1)) (h3:∀y,(rz y).2.2.2=y.2.2.2) (hn:(uf L p rz hz).2=none):qm (uf L p rz hz).1=qm L:=by
 unfold uf at hn ⊢;split at hn
 ·cases hn
 ·rename_i h;rw [dif_neg h];unfold qm;simp only [List.filter_map,AJ];have hc:((fun x:aD=>x.2.2.2) ∘ fun y=>if p y=1 then rz y else y)=fun x:aD=>x.2.2.2:=by
   funext y;simp only [Function.comp];split
   ·exact h3 y
   ·rfl
  rw [hc];apply RJ;intro y _;simp only [Function.comp];split
  ·exact h1 y
  ·rfl
theorem wrk {k:Int} (h0:0<=k) (h4:k<=4):IntKind.wrap .i64 (k+1)=k+1:=wr (by omega) (by omega)
section
variable {n:Nat} {L:aa aD} (hg:jZ n (gE L)=true) {e:Ed} (ha:0<=e.1/\e.1<n) (hb:0<=e.2/\e.2<n) {k:Int} (k0:0<=k) (k4:k<=4)
include hg ha hb k0 k4
theorem agF {x:aD} (hx:x∈L):(0<=x.1/\x.1<n)/\(0<=x.2.1/\x.2.1<n):=by
 have:=fQ ((kr hg).1 (x.1,x.2.1) (bY.2 ⟨x,hx,rfl⟩));simp only at this;omega
theorem aB3:qJ (((n:Int),L),e,k)=some ((match (sch n L e k).2 with|none=>(((0:Int),(0:Int),false),((n:Int),(sch n L e k).1))|some (_,y)=>((y.1,y.2.1,true),((n:Int),(sch n L e k).1)))):=by
 have hm:maxLen=9223372036854775807:=by decide
 obtain ⟨h1,dQ⟩:=zX hg;obtain ⟨mM,V8,RB⟩:=kr hg;have hll:=dV n (aN L k);show Jb BIG _=_;rw [amb,uI L k dQ (by omega) (jE hg k),ae];simp only;have gA:∀{B:Type} {q:Nat->ah B} {v:Int},0<=v/\v<n->bnd (labs n (aN L k)).length v q=q v.toNat:=fun h=>bW h.1 (by omega)
 have gV:∀{v:Int},0<=v/\v<n->(labs n (aN L k))[v.toNat]?=some (bA n L k v):=fun h=>getD_at (by omega)
 rw [gA ha,gV ha,ae,gA hb,gV hb,ae,XG _ _ (by omega),ae,gA ha,gV ha,ae,XG _ _ (by omega),ae];have XN:(bif decide (((labs n (aN L k)).count (bA n L k e.2):Int)<((labs n (aN L k)).count (bA n L k e.1):Int)) then bnd (labs n (aN L k)).length e.2 fun n9=>Option.bind (labs n (aN L k))[n9]? fun y10=>some y10 else some (bA n L k e.1))=some (if cmp n L k e.2<cmp n L k e.1 then bA n L k e.2 else bA n L k e.1):=by
  show (bif decide ((cmp n L k e.2:Int)<(cmp n L k e.1:Int)) then _ else _)=_;by_cases hc:cmp n L k e.2<cmp n L k e.1
  ·rw [ak (by omega),ai,gA hb,gV hb,if_pos hc];rfl
  ·rw [aA (by omega),ax,if_neg hc]
 rw [XN,ae];unfold sch;simp only;generalize (if cmp n L k e.2<cmp n L k e.1 then bA n L k e.2 else bA n L k e.1)=c;rw [wrk k0 k4];have nk:(if (4:Int)<k+1 then (4:Int) else k+1)=Rk k:=rfl;simp only [nk];have e1:=abv L (by omega) (lQ (fun x=>decide (bA n L k x=c)) k) (kY k) G_ (fun (l:aa aD) (i:Nat)=>((((n:Int),l),(i:Int)):(Int × aa aD) × Int)) (fun x=>x.2.toNat) (fun _ _=>by simp) (fun l=>((n:Int),l)) (fun l _ _=>((n:Int),l)) (F:=fun self13 x12=>
  bif decide (x12.2<(L.length:Int)) then
   Option.bind (bnd x12.1.2.length x12.2 fun n14=>
    Option.bind (Option.bind x12.1.2[n14]? fun y15=>
     bif y15.2.2.2 then
      Option.bind x12.1.2[n14]? fun y16=>
      bif decide (y16.2.2.1=k) then
       Option.bind x12.1.2[n14]? fun y17=>
       bnd (labs n (aN L k)).length y17.1 fun n18=>
       Option.bind (labs n (aN L k))[n18]? fun y19=>
       some (decide (y19=c))
      else some false
     else some false:ah (Bool)) fun x20=>
    bif x20 then
     Option.bind x12.1.2[n14]? fun y21=>
     some (x12.1.1,x12.1.2.set n14 (y21.1,y21.2.1,Rk k,y21.2.2.2))
    else some x12.1:ah ((Int × aa (Int × Int × Int × Bool)))) fun x22=>
   self13 (x22,IntKind.wrap .i64 (x12.2+(1:Int)))
  else some x12.1) (fun self out i y ho hy yC => ?_) (fun self out ho=>by simp)
 ·rw [Kc (Ha _ _)] at e1;simp only at e1;refine (Du e1 _).trans ?_;rw [Kc (Ha _ _)];simp only;have hmr:∀y,y∈L.map (fun y=>if lQ (fun x=>decide (bA n L k x=c)) k y=1 then kY k y else y)->(0<=y.1/\y.1<n)/\(0<=y.2.1/\y.2.1<n):=by
   intro y hy;obtain ⟨z,hz,rfl⟩:=bY.1 hy;have:=agF hg ha hb k0 k4 hz;split
   ·exact this
   ·exact this
  have hl1:(L.map (fun y=>if lQ (fun x=>decide (bA n L k x=c)) k y=1 then kY k y else y)).length<=1048576:=by rw [dY];omega
  generalize L.map (fun y=>if lQ (fun x=>decide (bA n L k x=c)) k y=1 then kY k y else y)=M at hmr hl1;have e2:=abv M hl1 (gq (fun x=>decide (bA n L k x=c)) k) (kY k) G_ (fun (l:aa aD) (i:Nat)=>((((n:Int),l),((0:Int),(0:Int)),(i:Int)):(Int × aa aD) × (Int × Int) × Int)) (fun x=>x.2.2.toNat) (fun _ _=>by simp) (fun l=>Sum.inl (((n:Int),l),((0:Int),(0:Int)))) (fun l _ y=>Sum.inr ((y.1,y.2.1),true,((n:Int),l))) (F:=fun self25 x24=>
  bif decide (x24.2.2<(M.length:Int)) then
   Option.bind (bnd x24.1.2.length x24.2.2 fun n26=>
    Option.bind (Option.bind x24.1.2[n26]? fun y27=>
     bif y27.2.2.2 then
      some true
     else Option.bind x24.1.2[n26]? fun y28=>
     bif !decide (y28.2.2.1=k) then
      some true
     else Option.bind x24.1.2[n26]? fun y29=>
     bnd (labs n (aN L k)).length y29.1 fun n30=>
     Option.bind (labs n (aN L k))[n30]? fun y31=>
     bif !decide (y31=c) then
      Option.bind x24.1.2[n26]? fun y32=>
      bnd (labs n (aN L k)).length y32.2.1 fun n33=>
      Option.bind (labs n (aN L k))[n33]? fun y34=>
      some (!decide (y34=c))
     else some false:ah (Bool)) fun x35=>
    bif x35 then
     some (Sum.inl (x24.1,x24.2.1))
    else Option.bind x24.1.2[n26]? fun y36=>
    bnd (labs n (aN L k)).length y36.1 fun n37=>
    Option.bind (labs n (aN L k))[n37]? fun y38=>
    Option.bind x24.1.2[n26]? fun y39=>
    bnd (labs n (aN L k)).length y39.2.1 fun n40=>
    Option.bind (labs n (aN L k))[n40]? fun y41=>
    bif !decide (y38=y41) then
     Option.bind x24.1.2[n26]? fun y42=>
     Option.bind (x24.1.2.set n26 (y42.1,y42.2.1,y42.2.2.1,true))[n26]? fun y43=>
     Option.bind (x24.1.2.set n26 (y42.1,y42.2.1,y42.2.2.1,true))[n26]? fun y44=>
     some (Sum.inr ((y43.1,y44.2.1),true,(x24.1.1,x24.1.2.set n26 (y42.1,y42.2.1,y42.2.2.1,true))))
    else Option.bind x24.1.2[n26]? fun y45=>
    some (Sum.inl ((x24.1.1,x24.1.2.set n26 (y45.1,y45.2.1,Rk k,y45.2.2.2)),x24.2.1)):ah (((Int × aa (Int × Int × Int × Bool)) × (Int × Int)) ⊕ ((Int × Int) × Bool × (Int × aa (Int × Int × Int × Bool))))) fun y=>match y with
   | .inl x46=>
    self25 (x46.1,x46.2,IntKind.wrap .i64 (x24.2.2+(1:Int)))
   | .inr x46=>
    some (Sum.inr (x46.1,x46.2.1,x46.2.2))
  else some (Sum.inl (x24.1,x24.2.1))) (fun self out i y ho hy yC => ?_) (fun self out ho=>by simp)
  ·refine (Du e2 _).trans ?_;cases (uf M (gq (fun x=>decide (bA n L k x=c)) k) (kY k) G_).2 with
   | none=>rfl
   | some r=>rfl
  ·have hi:=(bf hy).1;obtain ⟨r1,r2⟩:=hmr y (eZ hy);have hso:∀z,(out.set i z)[i]?=some z:=fun z=>XU (by omega)
   simp only [show ((i:Int)<(M.length:Int)) from by omega,decide_true,ai];rw [aH (by omega),bV (by omega)];simp only [yC,ae,gA r1,gV r1,gA r2,gV r2,hso];cases ht:y.2.2.2 with
   | true=>
    have hp:gq (fun x=>decide (bA n L k x=c)) k y=0:=by unfold gq;rw [if_pos (.inl ht)]
    rw [hp,if_neg (by omega),if_neg (by omega),set_self yC];rfl
   | false=>
    simp only [ax];by_cases hk:y.2.2.1=k
    ·simp only [ak hk,bC,ax];by_cases hA:bA n L k y.1=c
     ·simp only [ak hA,bC,ax,ae];by_cases hB:bA n L k y.2.1=c
      ·have hp:gq (fun x=>decide (bA n L k x=c)) k y=1:=by
        unfold gq;rw [if_neg (by simp [ht,hk,hA]),if_pos (by simp [hA,hB])]
       rw [hp,if_neg (by omega),if_pos rfl,hA,hB];simp only [decide_true,bC,ax,ae];unfold kY;rw [ht]
      ·have hp:gq (fun x=>decide (bA n L k x=c)) k y=2:=by
        unfold gq;rw [if_neg (by simp [ht,hk,hA]),if_neg (by simp [hB])]
       rw [hp,if_pos rfl,hA];simp only [aA (fun h=>hB (Eq.symm h):¬c=bA n L k y.2.1),ib,ai,ae];rfl
     ·simp only [aA hA,ib,ai];by_cases hB:bA n L k y.2.1=c
      ·have hp:gq (fun x=>decide (bA n L k x=c)) k y=2:=by
        unfold gq;rw [if_neg (by simp [ht,hk,hB]),if_neg (by simp [hA])]
       rw [hp,if_pos rfl,hB];simp only [decide_true,bC,ax,ae,aA hA,ib,ai];rfl
      ·have hp:gq (fun x=>decide (bA n L k x=c)) k y=0:=by
        unfold gq;rw [if_pos (.inr (.inr ⟨aA hA,aA hB⟩))]
       rw [hp,if_neg (by omega),if_neg (by omega),set_self yC];simp only [aA hB,ib,ai,ae]
    ·have hp:gq (fun x=>decide (bA n L k x=c)) k y=0:=by unfold gq;rw [if_pos (.inr (.inl hk))]
     rw [hp,if_neg (by omega),if_neg (by omega),set_self yC];simp only [aA hk,ib,ai,ae]
 ·have hi:=(bf hy).1;obtain ⟨r1,r2⟩:=agF hg ha hb k0 k4 (eZ hy);simp only [show ((i:Int)<(L.length:Int)) from by omega,decide_true,ai];rw [aH (by omega),bV (by omega),if_neg (Ha _ _ _)];simp only [yC,ae,gA r1,gV r1];cases ht:y.2.2.2 with
  | false=>
   have hp:lQ (fun x=>decide (bA n L k x=c)) k y=0:=by unfold lQ;rw [if_neg (by simp [ht])]
   rw [hp,if_neg (by omega),set_self yC];rfl
  | true=>
   simp only [ai];by_cases hk:y.2.2.1=k
   ·simp only [ak hk,ai];by_cases hA:bA n L k y.1=c
    ·have hp:lQ (fun x=>decide (bA n L k x=c)) k y=1:=by unfold lQ;rw [if_pos ⟨ht,hk,ak hA⟩]
     rw [hp,if_pos rfl];simp only [ak hA,ai,ae];unfold kY;rw [ht]
    ·have hp:lQ (fun x=>decide (bA n L k x=c)) k y=0:=by unfold lQ;rw [if_neg (by simp [hA])]
     rw [hp,if_neg (by omega),set_self yC];simp only [aA hA,ax,ae]
   ·have hp:lQ (fun x=>decide (bA n L k x=c)) k y=0:=by unfold lQ;rw [if_neg (by simp [hk])]
    rw [hp,if_neg (by omega),set_self yC];simp only [aA hk,ax,ae]
end
section
variable {n:Nat} {L:aa aD} (hg:jZ n (gE L)=true) {e:Ed} (ha:0<=e.1/\e.1<n) (hb:0<=e.2/\e.2<n) {k:Int} (k0:0<=k) (k4:k<=4)
include hg ha hb k0 k4
theorem awV (hN:NoCyc (aN L k)):sD (((n:Int),L),e,k)=some (((sch n L e k).1,match (sch n L e k).2 with|none=>(-1:Int)|some (j,_)=>(j:Int)),()):=by
 have hm:maxLen=9223372036854775807:=by decide
 obtain ⟨h1,dQ⟩:=zX hg;obtain ⟨mM,V8,RB⟩:=kr hg;obtain ⟨hE,hEn,hEl⟩:=G9 hg k;obtain ⟨r,b,r1,r2,r3⟩:=AB (n:=n) L k h1 dQ (by omega) hE;obtain ⟨Fs,rfl,hF⟩:=r3 (r2.2 hN);obtain ⟨ja,pa,a1,a2,a3⟩:=sJ hE hF dQ h1 e.1 ha.1 ha.2;obtain ⟨jb,pb,b1,b2,b3⟩:=sJ hE hF dQ h1 e.2 hb.1 hb.2;have htl:=Dt Fs;have jal:=(bf a1).1;have jbl:=(bf b1).1;have hpa:=eZ a1;have hpb:=eZ b1;obtain ⟨Va,va1,_,va3,va4,_,va6⟩:=hF.verts dQ hpa;obtain ⟨Vb,vb1,_,vb3,vb4,_,vb6⟩:=hF.verts dQ hpb;have hGa:=hF.gt pa hpa;have hGb:=hF.gt pb hpb;have ra:=hGa.rg pa.1 (dX ..);have rb:=hGb.rg pb.1 (dX ..);have ca:=(hGa.con hE _).1 a2;have cb:=(hGb.con hE _).1 b2;have la:Va.length=cmp n L k e.1:=by rw [va4,ML hg hF hpa,MM hg ra ha ca]
 have lb:Vb.length=cmp n L k e.2:=by rw [vb4,ML hg hF hpb,MM hg rb hb cb]
 have ma:∀x:Int,0<=x/\x<n->(x∈Va↔bA n L k x=bA n L k e.1):=fun x hx=>by
  rw [va3,hGa.con hE,lC hg k hx ha];exact ⟨fun h=>h.symm.trans ca,fun h=>ca.trans h.symm⟩
 have mb:∀x:Int,0<=x/\x<n->(x∈Vb↔bA n L k x=bA n L k e.2):=fun x hx=>by
  rw [vb3,hGb.con hE,lC hg k hx hb];exact ⟨fun h=>h.symm.trans cb,fun h=>cb.trans h.symm⟩
 show Ey BIG _=_;rw [aiw,ak (by simp only;omega),ai,r1,ae];simp only;rw [a3,ae,aH (by omega),wD a1,ae,va1,ae,b3,ae,aH (by omega),wD b1,ae,vb1,ae];simp only;have XN:∃V,(bif decide ((Vb.length:Int)<(Va.length:Int)) then some Vb else some Va)=some V/\V.length<=12/\∀x:Int,0<=x/\x<n->(x∈V↔bA n L k x=(if cmp n L k e.2<cmp n L k e.1 then bA n L k e.2 else bA n L k e.1)):=by
  by_cases hc:cmp n L k e.2<cmp n L k e.1
  ·rw [ak (by omega),if_pos hc];exact ⟨Vb,rfl,vb6,mb⟩
  ·rw [aA (by omega),if_neg hc];exact ⟨Va,rfl,va6,ma⟩
 obtain ⟨V,hV,hVl,hVm⟩:=XN;rw [hV,ae,wrk k0 k4];have nk:(bif decide ((4:Int)<k+1) then some (4:Int) else some (k+1))=some (Rk k):=by
  unfold Rk;by_cases h:4<k+1
  ·rw [ak h,if_pos h];rfl
  ·rw [aA h,if_neg h];rfl
 rw [nk,ae,gX];unfold sch;simp only;generalize (if cmp n L k e.2<cmp n L k e.1 then bA n L k e.2 else bA n L k e.1)=c at hVm ⊢;have hVd:∀x:Int,0<=x/\x<n->jV (V,x)=some (decide (bA n L k x=c),()):=fun x hx=>by
  rw [zW V x (by omega)];by_cases h:bA n L k x=c
  ·rw [ak h,ak ((hVm x hx).2 h)]
  ·rw [aA h,aA (fun h'=>h ((hVm x hx).1 h'))]
 have e1:=abv L (by omega) (lQ (fun x=>decide (bA n L k x=c)) k) (kY k) G_ (fun (l:aa aD) (i:Nat)=>((l,(i:Int)):aa aD × Int)) (fun x=>x.2.toNat) (fun _ _=>by simp) (fun l=>l) (fun l _ _=>l) (F:=fun self12 x11=>
   bif decide (x11.2<(x11.1.length:Int)) then
    Option.bind (Option.bind (bnd x11.1.length x11.2 fun n13=>
     Option.bind x11.1[n13]? fun y14=>
     bif y14.2.2.2 then
      bnd x11.1.length x11.2 fun n15=>
      Option.bind x11.1[n15]? fun y16=>
      bif decide (y16.2.2.1=k) then
       bnd x11.1.length x11.2 fun n17=>
       Option.bind x11.1[n17]? fun y18=>
       Option.bind (jV (V,y18.1)) fun r19=>
       some r19.1
      else some false
     else some false:ah (Bool)) fun x20=>
     bif x20 then
      bnd x11.1.length x11.2 fun n21=>
      Option.bind x11.1[n21]? fun y22=>
      some (x11.1.set n21 (y22.1,y22.2.1,Rk k,y22.2.2.2))
     else some x11.1:ah ((aa (Int × Int × Int × Bool)))) fun x23=>
    self12 (x23,IntKind.wrap .i64 (x11.2+(1:Int)))
   else some x11.1) (fun self out i y ho hy yC => ?_) (fun self out ho=>by simp [ho])
 ·rw [Kc (Ha _ _)] at e1;simp only at e1;have e1':(aK BIG _ ((L,(0:Int)):aa aD × Int))=_:=e1;rw [e1',ae,Kc (Ha _ _)];simp only;have hmr:∀y,y∈L.map (fun y=>if lQ (fun x=>decide (bA n L k x=c)) k y=1 then kY k y else y)->(0<=y.1/\y.1<n)/\(0<=y.2.1/\y.2.1<n):=by
   intro y hy;obtain ⟨z,hz,rfl⟩:=bY.1 hy;have:=agF hg ha hb k0 k4 hz;split
   ·exact this
   ·exact this
  have hml:(L.map (fun y=>if lQ (fun x=>decide (bA n L k x=c)) k y=1 then kY k y else y)).length=L.length:=by rw [dY]
  have V5:∀(i:Nat) y,(L.map (fun y=>if lQ (fun x=>decide (bA n L k x=c)) k y=1 then kY k y else y))[i]?=some y->∃y0,L[i]?=some y0/\y0.2.2.2=y.2.2.2/\(y.2.2.2=false->y0.2.2.1=y.2.2.1):=by
   intro i y hy;rw [kM,dh] at hy;obtain ⟨y0,h0,rfl⟩:=hy;refine ⟨y0,h0,?_,?_⟩
   ·split
    ·rfl
    ·rfl
   ·intro ht;split at ht
    ·rename_i hp;exfalso;unfold lQ at hp;split at hp
     ·rename_i Ru;rw [show (kY k y0).2.2.2=y0.2.2.2 from rfl,Ru.1] at ht;cases ht
     ·omega
    ·rename_i hp;rw [if_neg hp]
  generalize L.map (fun y=>if lQ (fun x=>decide (bA n L k x=c)) k y=1 then kY k y else y)=M at hmr hml V5;have e2:=abv M (by omega) (gq (fun x=>decide (bA n L k x=c)) k) (kY k) G_ (fun (l:aa aD) (i:Nat)=>((l,(i:Int)):aa aD × Int)) (fun x=>x.2.toNat) (fun _ _=>by simp) (fun l=>Sum.inl l) (fun l j _=>Sum.inr (l,(j:Int))) (F:=fun self26 x25=>
   bif decide (x25.2<(x25.1.length:Int)) then
    Option.bind (bnd x25.1.length x25.2 fun n27=>
     Option.bind x25.1[n27]? fun y28=>
     Option.bind (jV (V,y28.1)) fun r29=>
     bnd x25.1.length x25.2 fun n30=>
     Option.bind x25.1[n30]? fun y31=>
     Option.bind (jV (V,y31.2.1)) fun r32=>
     Option.bind (bnd L.length x25.2 fun n33=>
      Option.bind L[n33]? fun y34=>
      bif y34.2.2.2 then
       some true
      else bnd L.length x25.2 fun n35=>
      Option.bind L[n35]? fun y36=>
      bif !decide (y36.2.2.1=k) then
       some true
      else bif !r29.1 then
       some !r32.1
      else some false:ah (Bool)) fun x37=>
     bif x37 then
      some (Sum.inl x25.1)
     else Option.bind (bif r29.1 then
      some r32.1
      else some false:ah (Bool)) fun x38=>
     bif x38 then
      bnd x25.1.length x25.2 fun n39=>
      Option.bind x25.1[n39]? fun y40=>
      some (Sum.inl (x25.1.set n39 (y40.1,y40.2.1,Rk k,y40.2.2.2)))
     else bnd x25.1.length x25.2 fun n41=>
     Option.bind x25.1[n41]? fun y42=>
     some (Sum.inr (x25.1.set n41 (y42.1,y42.2.1,y42.2.2.1,true),x25.2)):ah (((aa (Int × Int × Int × Bool))) ⊕ ((aa (Int × Int × Int × Bool)) × Int))) fun y=>match y with
    | .inl x43=>
     self26 (x43,IntKind.wrap .i64 (x25.2+(1:Int)))
    | .inr x43=>
     some (Sum.inr (x43.1,x43.2))
   else some (Sum.inl x25.1)) (fun self out i y ho hy yC => ?_) (fun self out ho=>by simp [ho])
  ·refine (Du e2 _).trans ?_;cases (uf M (gq (fun x=>decide (bA n L k x=c)) k) (kY k) G_).2 with
   | none=>rfl
   | some r=>rfl
  ·have hi:=(bf hy).1;obtain ⟨q1,q2⟩:=hmr y (eZ hy);obtain ⟨y0,o1,o2,o3⟩:=V5 i y hy;have bo:∀{B:Type} {q:Nat->ah B},bnd out.length (i:Int) q=q i:=fun {B q}=>aH (by omega)
   have bL:∀{B:Type} {q:Nat->ah B},bnd L.length (i:Int) q=q i:=fun {B q}=>aH (by omega)
   simp only [show ((i:Int)<(out.length:Int)) from by omega,decide_true,ai,bo,bL,yC,o1,ae,hVd y.1 q1,hVd y.2.1 q2,o2];rw [bV (by omega)];cases ht:y.2.2.2 with
   | true=>
    have hp:gq (fun x=>decide (bA n L k x=c)) k y=0:=by unfold gq;rw [if_pos (.inl ht)]
    rw [hp,if_neg (by omega),if_neg (by omega),set_self yC];rfl
   | false=>
    rw [o3 ht];simp only [ax];by_cases hk:y.2.2.1=k
    ·simp only [ak hk,bC,ax];by_cases hA:bA n L k y.1=c
     ·by_cases hB:bA n L k y.2.1=c
      ·have hp:gq (fun x=>decide (bA n L k x=c)) k y=1:=by
        unfold gq;rw [if_neg (by simp [ht,hk,hA]),if_pos (by simp [hA,hB])]
       rw [hp,if_neg (by omega),if_pos rfl];simp only [ak hA,ak hB,bC,ax,ai,ae];unfold kY;rw [ht]
      ·have hp:gq (fun x=>decide (bA n L k x=c)) k y=2:=by
        unfold gq;rw [if_neg (by simp [ht,hk,hA]),if_neg (by simp [hB])]
       rw [hp,if_pos rfl];simp only [ak hA,aA hB,bC,ax,ai,ae];rfl
     ·by_cases hB:bA n L k y.2.1=c
      ·have hp:gq (fun x=>decide (bA n L k x=c)) k y=2:=by
        unfold gq;rw [if_neg (by simp [ht,hk,hB]),if_neg (by simp [hA])]
       rw [hp,if_pos rfl];simp only [aA hA,ak hB,ib,bC,ax,ai,ae];rfl
      ·have hp:gq (fun x=>decide (bA n L k x=c)) k y=0:=by
        unfold gq;rw [if_pos (.inr (.inr ⟨aA hA,aA hB⟩))]
       rw [hp,if_neg (by omega),if_neg (by omega),set_self yC];simp only [aA hA,aA hB,ib,ai,ae]
    ·have hp:gq (fun x=>decide (bA n L k x=c)) k y=0:=by unfold gq;rw [if_pos (.inr (.inl hk))]
     rw [hp,if_neg (by omega),if_neg (by omega),set_self yC];simp only [aA hk,ib,ai,ae]
 ·have hi:=(bf hy).1;obtain ⟨q1,q2⟩:=agF hg ha hb k0 k4 (eZ hy);have bo:∀{B:Type} {q:Nat->ah B},bnd out.length (i:Int) q=q i:=fun {B q}=>aH (by omega)
  simp only [show ((i:Int)<(out.length:Int)) from by omega,decide_true,ai,bo,yC,ae,hVd y.1 q1];rw [bV (by omega),if_neg (Ha _ _ _)];cases ht:y.2.2.2 with
  | false=>
   have hp:lQ (fun x=>decide (bA n L k x=c)) k y=0:=by unfold lQ;rw [if_neg (by simp [ht])]
   rw [hp,if_neg (by omega),set_self yC];rfl
  | true=>
   simp only [ai];by_cases hk:y.2.2.1=k
   ·simp only [ak hk,ai];by_cases hA:bA n L k y.1=c
    ·have hp:lQ (fun x=>decide (bA n L k x=c)) k y=1:=by unfold lQ;rw [if_pos ⟨ht,hk,ak hA⟩]
     rw [hp,if_pos rfl];simp only [ak hA,ai,ae];unfold kY;rw [ht]
    ·have hp:lQ (fun x=>decide (bA n L k x=c)) k y=0:=by unfold lQ;rw [if_neg (by simp [hA])]
     rw [hp,if_neg (by omega),set_self yC];simp only [aA hA,ax,ae]
   ·have hp:lQ (fun x=>decide (bA n L k x=c)) k y=0:=by unfold lQ;rw [if_neg (by simp [hk])]
    rw [hp,if_neg (by omega),set_self yC];simp only [aA hk,ax,ae]
end
theorem auZ (L:aa aD) (x:aD) (hL:L.length<=1048576):Pz (L,x)=some (L.filter (fun y=>lsB (y.1,y.2.1) (x.1,x.2.1))++[x]++L.filter (fun y=>lsB (x.1,x.2.1) (y.1,y.2.1)),()):=by
 have hm:maxLen=9223372036854775807:=by decide
 have yS:∀(p:aD->Bool) (i:Nat),((L.take i).filter p).length<=i:=fun p i=>by
  have:=qX p (L.take i);rw [iD] at this;omega
 have yR:∀(p:aD->Bool) (i:Nat) (hi:i<L.length),(L.take (i+1)).filter p=(L.take i).filter p++(if p L[i]=true then [L[i]] else []):=fun p i hi=>by
  rw [rO hi,RO];congr 1;by_cases h:p L[i]=true<;>simp [h]
 show Py BIG _=_;rw [atM];refine dW (x:=([],(0:Int))) (P:=fun o=>o=some (L.filter (fun y=>lsB (y.1,y.2.1) (x.1,x.2.1))++[x]++L.filter (fun y=>lsB (x.1,x.2.1) (y.1,y.2.1)),())) (fun (s:aa aD × Int)=>∃i:Nat,s.2=(i:Int)/\i<=L.length/\s.1=(L.take i).filter (fun y=>lsB (y.1,y.2.1) (x.1,x.2.1))) (fun s=>L.length-s.2.toNat) (fun _ (b:aa aD)=>b=L.filter (fun y=>lsB (y.1,y.2.1) (x.1,x.2.1))) (by simp [BIG];omega) ⟨0,rfl,by omega,rfl⟩ (fun self s hx hs => ?_) (fun b hb => ?_)
 ·obtain ⟨out,jj⟩:=s;obtain ⟨i,h1,h2,h3⟩:=hx;simp only at h1 h2 h3 hs ⊢;subst h1 h3;by_cases hi:i<L.length
  ·have hfi:=yS (fun y=>lsB (y.1,y.2.1) (x.1,x.2.1)) i;have bi:∀{B:Type} {q:Nat->ah B},bnd L.length (i:Int) q=q i:=fun {B q}=>aH hi
   simp only [show ((i:Int)<(L.length:Int)) from by omega,decide_true,ai,bi,aT hi,ae];have hc:(bif decide (L[i].1<x.1) then some true else bif decide (L[i].1=x.1) then some (decide (L[i].2.1<x.2.1)) else some false)=some (lsB (L[i].1,L[i].2.1) (x.1,x.2.1)):=by
    unfold lsB;simp only;cases decide (L[i].1<x.1)<;>cases decide (L[i].1=x.1)<;>rfl
   rw [hc,ae,bV (by omega)];have ik:=hs ((L.take (i+1)).filter (fun y=>lsB (y.1,y.2.1) (x.1,x.2.1)),((i+1:Nat):Int)) ⟨i+1,rfl,hi,rfl⟩ (by simp;omega);rw [yR _ i hi] at ik;refine Eq.mpr ?_ ik;cases hp:lsB (L[i].1,L[i].2.1) (x.1,x.2.1) with
   | true=>
    simp only [ai,if_true];rw [ak (by simp only [bI,bS];omega),ai,ae]
   | false=>
    simp only [ax,iP,if_false,nz,ae]
  ·simp only [show ¬((i:Int)<(L.length:Int)) from by omega,decide_false,ax];have:i=L.length:=by omega
   subst this;exact ⟨_,rfl,by rw [nN]⟩
 ·subst hb;have h0:=qX (fun y=>lsB (y.1,y.2.1) (x.1,x.2.1)) L;rw [ak (by simp only [bI,bS];omega),ai];refine dW (x:=(L.filter (fun y=>lsB (y.1,y.2.1) (x.1,x.2.1))++[x],(0:Int))) (P:=fun o=>o=some (L.filter (fun y=>lsB (y.1,y.2.1) (x.1,x.2.1))++[x]++L.filter (fun y=>lsB (x.1,x.2.1) (y.1,y.2.1)),())) (fun (s:aa aD × Int)=>∃i:Nat,s.2=(i:Int)/\i<=L.length/\s.1=L.filter (fun y=>lsB (y.1,y.2.1) (x.1,x.2.1))++[x]++(L.take i).filter (fun y=>lsB (x.1,x.2.1) (y.1,y.2.1))) (fun s=>L.length-s.2.toNat) (fun _ (b:aa aD)=>b=L.filter (fun y=>lsB (y.1,y.2.1) (x.1,x.2.1))++[x]++L.filter (fun y=>lsB (x.1,x.2.1) (y.1,y.2.1))) (by simp [BIG];omega) ⟨0,rfl,by omega,by simp⟩ (fun self s hx hs => ?_) (fun b hb=>by rw [hb]);obtain ⟨out,jj⟩:=s;obtain ⟨i,h1,h2,h3⟩:=hx;simp only at h1 h2 h3 hs ⊢;subst h1 h3;by_cases hi:i<L.length
  ·have hfi:=yS (fun y=>lsB (x.1,x.2.1) (y.1,y.2.1)) i;have bi:∀{B:Type} {q:Nat->ah B},bnd L.length (i:Int) q=q i:=fun {B q}=>aH hi
   simp only [show ((i:Int)<(L.length:Int)) from by omega,decide_true,ai,bi,aT hi,ae];have hc:(bif decide (x.1<L[i].1) then some true else bif decide (L[i].1=x.1) then some (decide (x.2.1<L[i].2.1)) else some false)=some (lsB (x.1,x.2.1) (L[i].1,L[i].2.1)):=by
    unfold lsB;simp only;have:decide (L[i].1=x.1)=decide (x.1=L[i].1):=by
     by_cases h:L[i].1=x.1
     ·rw [ak h,ak h.symm]
     ·rw [aA h,aA (fun h'=>h h'.symm)]
    rw [this];cases decide (x.1<L[i].1)<;>cases decide (x.1=L[i].1)<;>rfl
   rw [hc,ae,bV (by omega)];have ik:=hs (L.filter (fun y=>lsB (y.1,y.2.1) (x.1,x.2.1))++[x]++(L.take (i+1)).filter (fun y=>lsB (x.1,x.2.1) (y.1,y.2.1)),((i+1:Nat):Int)) ⟨i+1,rfl,hi,rfl⟩ (by simp;omega);rw [yR _ i hi,<-lW] at ik;refine Eq.mpr ?_ ik;cases hp:lsB (x.1,x.2.1) (L[i].1,L[i].2.1) with
   | true=>
    simp only [ai,if_true];rw [ak (by simp only [dR,bI,bS];omega),ai,ae]
   | false=>
    simp only [ax,iP,if_false,nz,ae]
  ·simp only [show ¬((i:Int)<(L.length:Int)) from by omega,decide_false,ax];have:i=L.length:=by omega
   subst this;exact ⟨_,rfl,by rw [nN]⟩
theorem put_eq {L:aa aD} {e:Ed} (hs:uG (gE L)) (aZ:e∉gE L) {k:Nat} (hk:k<=L.length) (h1:∀j (hj:j<L.length),j<k->lsB (L[j].1,L[j].2.1) e=true) (h2:∀hj:k<L.length,lsB (L[k].1,L[k].2.1) e=false) :
  L.filter (fun y=>lsB (y.1,y.2.1) e)=L.take k/\L.filter (fun y=>lsB e (y.1,y.2.1))=L.drop k:=by
 have ay1:∀a b:Ed,lsB a b=true->lsB b a=false:=by
  intro a b h;cases hb:lsB b a with
  | false=>rfl
  | true=>
   exfalso;simp only [lsB,iE,aU,decide_eq_true_eq] at h hb;omega
 have hT:∀y,y∈L.take k->lsB (y.1,y.2.1) e=true:=by
  intro y hy;obtain ⟨j,hj,rfl⟩:=FZ.1 hy;rw [iD] at hj;rw [List.getElem_take];exact h1 j (by omega) (by omega)
 have hgl:(gE L).length=L.length:=by unfold gE;rw [dY]
 have Ki:∀j (hj:j<L.length),(gE L)[j]'(by omega)=(L[j].1,L[j].2.1):=fun j hj=>by unfold gE;rw [List.getElem_map]
 have hD:∀y,y∈L.drop k->lsB e (y.1,y.2.1)=true:=by
  intro y hy;obtain ⟨j,hj,rfl⟩:=FZ.1 hy;rw [sZ] at hj;rw [List.getElem_drop];have NJ:k<L.length:=by omega
  have hk2:lsB e (L[k].1,L[k].2.1)=true:=by
   cases hb:lsB e (L[k].1,L[k].2.1) with
   | true=>rfl
   | false=>
    have:=SF (h2 NJ) hb;exact absurd (bY.2 ⟨L[k],nM NJ,this⟩) aZ
  by_cases hj0:j=0
  ·subst hj0;exact hk2
  ·have:=RH.1 hs k (k+j) (by omega) (by omega) (by omega);rw [Ki k NJ,Ki (k+j) (by omega)] at this;exact Bo hk2 this
 constructor
 ·conv=>lhs;rw [<-Kr k L,RO]
  rw [List.filter_eq_self.2 hT,List.filter_eq_nil_iff.2 (fun y hy=>by rw [ay1 _ _ (hD y hy)];simp),nz]
 ·conv=>lhs;rw [<-Kr k L,RO]
  rw [List.filter_eq_self.2 hD,List.filter_eq_nil_iff.2 (fun y hy=>by rw [ay1 _ _ (hT y hy)];simp),gX]
theorem XH (n:Int) (L:aa aD) (e:Ed) (hL:L.length<=1000000):∃r:Int × aa aD × Bool,wB ((n,L),e)=some (r,())/\Bi ((n,L),e)=some (r,())/\r.2.1.length<=67/\(¬(0<=n/\WOk n.toNat L/\eG n e=true/\e∉gE L)->r=(0,[],false))/\((0<=n/\WOk n.toNat L/\eG n e=true/\e∉gE L)->r=(n,L.filter (fun y=>lsB (y.1,y.2.1) e)++[(e.1,e.2,0,!decide (bA n.toNat L 0 e.1=bA n.toNat L 0 e.2))]++L.filter (fun y=>lsB e (y.1,y.2.1)),true)):=by
 have hm:maxLen=9223372036854775807:=by decide
 have hgl:(gE L).length=L.length:=by unfold gE;rw [dY]
 have hGi:mg (n,L)=some ((n,gE L),()):=Dc n L (by omega);have hGs:mf (n,L)=some ((n,gE L),()):=yc n L (by omega);obtain ⟨b,b1,b2⟩:=FD n L (by omega);obtain ⟨b',b1',b2'⟩:=FF n L (by omega);have RF:b'=b:=by cases b<;>cases b'<;>simp_all
 subst RF;show ∃r:Int × aa aD × Bool,QP BIG _=_/\PD BIG _=_/\_;rw [auo,atO,hGi,hGs,ae,ae];simp only;simp only [aq9 n (gE L) e (by omega),aq_ n (gE L) e (by omega),b1,b1',ae];cases b' with
 | false=>exact ⟨_,rfl,rfl,by simp,fun _=>rfl,fun h=>absurd (b2.2 ⟨h.1,h.2.1⟩) (by simp)⟩
 | true=>
  obtain ⟨n0,hw⟩:=b2.1 rfl;obtain ⟨m,rfl⟩:∃m:Nat,n=(m:Int):=⟨n.toNat,by omega⟩
  rw [iB] at hw;have hg:=hw.gr;obtain ⟨h1,dQ⟩:=zX hg;obtain ⟨mM,V8,RB⟩:=kr hg;have akR:uG (gE L):=by
   have h:=hg;unfold jZ at h;rw [aU] at h;exact (lw h.2).2.1
  simp only [bC,ax];unfold MG;rw [hg,dZ];by_cases hc:(eG (m:Int) e && !decide (e∈gE L))=true;case neg=>
   rw [if_neg hc];exact ⟨_,rfl,rfl,by simp,fun _=>rfl,fun h=>absurd (by rw [h.2.2.1,aA h.2.2.2];rfl) hc⟩
  rw [if_pos hc];simp only [aU,sV,decide_eq_false_iff_not] at hc;obtain ⟨he,aZ⟩:=hc;have jf:=fQ he;simp only [bC,ae,ax];have hll:=dV m (aN L 0);rw [uI L 0 dQ (by omega) (jE hg 0),ae];simp only
  -- the place
  have hkk:L.findIdx (fun y=>!lsB (y.1,y.2.1) e)<=L.length:=List.findIdx_le_length;have V4:∀j (hj:j<L.length),j<L.findIdx (fun y=>!lsB (y.1,y.2.1) e)->lsB (L[j].1,L[j].2.1) e=true:=by
   intro j hj bU;have:=List.not_of_lt_findIdx bU;simpa using this
  have hps:∀hj:L.findIdx (fun y=>!lsB (y.1,y.2.1) e)<L.length,lsB (L[L.findIdx (fun y=>!lsB (y.1,y.2.1) e)].1,L[L.findIdx (fun y=>!lsB (y.1,y.2.1) e)].2.1) e=false:=by
   intro hj;have:=XW (w:=hj);simpa using this
  generalize L.findIdx (fun y=>!lsB (y.1,y.2.1) e)=kk at hkk V4 hps;obtain ⟨q1,q2⟩:=put_eq akR aZ hkk V4 hps;have aD4:aK BIG (fun self6 x5=>
   Option.bind (bif decide (x5<(L.length:Int)) then
    bnd L.length x5 fun n7=>
    Option.bind L[n7]? fun y8=>
    bnd L.length x5 fun n9=>
    Option.bind L[n9]? fun y10=>
    Option.bind (zG ((y8.1,y10.2.1),e)) fun r11=>
    some r11.1
    else some false:ah (Bool)) fun x12=>
   bif x12 then
    self6 (IntKind.wrap .i64 (x5+(1:Int)))
   else some x5) (0:Int)=some ((kk:Nat):Int):=by
   refine kI (fun (x:Int)=>∃i:Nat,x=(i:Int)/\i<=kk) (fun x=>kk-x.toNat) (fun _=>((kk:Nat):Int)) (fun self x ⟨i,h1,h2⟩ hs => ?_) (n:=BIG) (x:=0) (by simp [BIG];omega) ⟨0,rfl,by omega⟩;subst h1;by_cases hi:i<L.length
   ·have bi:∀{B:Type} {q:Nat->ah B},bnd L.length (i:Int) q=q i:=fun {B q}=>aH hi
    simp only [show ((i:Int)<(L.length:Int)) from by omega,decide_true,ai,bi,aT hi,ae,XA];by_cases hik:i<kk
    ·rw [V4 i hi hik,ai,bV (by omega)];exact hs _ ⟨i+1,rfl,hik⟩ (by simp;omega)
    ·have:i=kk:=by omega
     subst this;rw [hps hi,ax]
   ·have:i=kk:=by omega
    subst this;simp only [show ¬((i:Int)<(L.length:Int)) from by omega,decide_false,ax,ae]
  rw [aD4,ae];have gA:∀{B:Type} {q:Nat->ah B} {v:Int},0<=v/\v<m->bnd (labs m (aN L 0)).length v q=q v.toNat:=fun h=>bW h.1 (by omega)
  have gV:∀{v:Int},0<=v/\v<m->(labs m (aN L 0))[v.toNat]?=some (bA m L 0 v):=fun h=>getD_at (by omega)
  have hcp:xX ((m:Int),L.take kk)=some (((m:Int),L.take kk),()):=by
   show C_ BIG _=_;rw [aaW,ak (by simp only [iD];omega)];rfl
  have Bw:List.take (L.length-kk) (L.drop kk)=L.drop kk:=RI (by rw [sZ];omega);rw [ak (by omega),ai,iB,ak (by omega),ai,rR,tu,hcp,ae,gA ⟨jf.1,jf.2.1⟩,gV ⟨jf.1,jf.2.1⟩,ae,gA ⟨jf.2.2.1,jf.2.2.2.1⟩,gV ⟨jf.2.2.1,jf.2.2.2.1⟩,ae,Bw];simp only;rw [ak (by simp only [iD,bI,bS];omega),ai,ak (by omega),ai,ak (by simp only [dR,iD,sZ,bI,bS];omega),ai];have akS:0<=(m:Int)/\WOk (m:Int).toNat L/\eG (m:Int) e=true/\e∉gE L:=⟨n0,by rw [iB];exact hw,he,aZ⟩
  refine ⟨_,rfl,?_,?_,fun h=>absurd akS h,fun _ => ?_⟩
  rotate_right
  ·rw [q1,q2,iB]
  ·-- the reference
   obtain ⟨hE,hEn,hEl⟩:=G9 hg 0;obtain ⟨r,b,r1,r2,r3⟩:=AB (n:=m) L 0 h1 dQ (by omega) hE;obtain ⟨Fs,rfl,hF⟩:=r3 (r2.2 hw.nc);obtain ⟨ja,pa,a1,a2,a3⟩:=sJ hE hF dQ h1 e.1 jf.1 jf.2.1;obtain ⟨jb,pb,c1,c2,c3⟩:=sJ hE hF dQ h1 e.2 jf.2.2.1 jf.2.2.2.1;have MU:((ja:Int)=(jb:Int))↔bA m L 0 e.1=bA m L 0 e.2:=by
    rw [lC hg 0 ⟨jf.1,jf.2.1⟩ ⟨jf.2.2.1,jf.2.2.2.1⟩];constructor
    ·intro h;have:ja=jb:=by omega
     subst this;rw [a1,aO] at c1;subst c1;have hG:=hF.gt pa (eZ a1);exact ((hG.con hE _).1 a2).symm.trans ((hG.con hE _).1 c2)
    ·intro h;have:=hF.idx hE a1 c1 a2 c2 h;omega
   have hd:decide ((ja:Int)=(jb:Int))=decide (bA m L 0 e.1=bA m L 0 e.2):=by
    by_cases h:bA m L 0 e.1=bA m L 0 e.2
    ·rw [ak h,ak (MU.2 h)]
    ·rw [aA h,aA (fun h'=>h (MU.1 h'))]
   rw [r1,ae];simp only;rw [a3,ae,c3,ae,auZ _ _ (by omega),ae];simp only;rw [q1,q2,hd]
  ·simp only [dR,iD,sZ,bI,bS];omega
theorem aAj {L:aa aD} {p:aD->Nat} {rz hz:aD->aD} {j:Nat} {y:aD} (h:(uf L p rz hz).2=some (j,y)):(uf L p rz hz).1[j]?=some y:=by
 unfold uf at h ⊢;split at h
 ·rename_i bU;simp only [aO,di] at h;obtain ⟨rfl,rfl⟩:=h;rw [dif_pos bU];simp only;rw [uZ (by rw [dY,iD];exact Nat.min_le_left ..),dY,iD,Nat.min_eq_left (Nat.le_of_lt bU),Nat.sub_self];rfl
 ·cases h
def yl (n:Nat) (e:Ed):Nat->aa aD->aa aD × ah aD
 | 0,L=>(L,none)
 | k+1,L=>match (sch n L e (k:Int)).2 with
  | none=>yl n e k (sch n L e (k:Int)).1
  | some (_,y)=>((sch n L e (k:Int)).1,some y)
theorem aop (n:Nat) (L:aa aD) (e:Ed) (k:Int):(sch n L e k).1.length=L.length:=by
 unfold sch;simp only;rw [aon,aon]
theorem aj4 (n:Nat) (e:Ed):∀(k:Nat) (L:aa aD),(yl n e k L).1.length=L.length
 | 0,L=>rfl
 | k+1,L=>by
  unfold yl;split
  ·rw [aj4 n e k,aop]
  ·exact aop ..
structure SOk (n:Nat) (L:List aD):Prop where
 gr:jZ n (gE L)=true
 nc:NoCyc (qm L)
theorem aDT (L:aa aD) (k:Int):∀e,e∈aN L k->e∈qm L:=by
 intro e he;unfold aN at he;unfold qm;rw [bY] at he ⊢;obtain ⟨x,h1,h2⟩:=he;simp only [jQ,aU] at h1;exact ⟨x,jQ.2 ⟨h1.1,h1.2.1⟩,h2⟩
theorem abw (n:Nat) (L:aa aD) (e:Ed) (k:Int):gE (sch n L e k).1=gE L:=by
 unfold sch;simp only;rw [auY (rz:=kY k) (hz:=G_) (fun _=>rfl) (fun _=>rfl),auY (rz:=kY k) (hz:=G_) (fun _=>rfl) (fun _=>rfl)]
theorem aAk {n:Nat} {L:aa aD} {e:Ed} {k:Int} (h:(sch n L e k).2=none):qm (sch n L e k).1=qm L:=by
 unfold sch at h ⊢;simp only at h ⊢;rw [aoo (rz:=kY k) (hz:=G_) (fun _=>rfl) (fun _=>rfl) h,aoo (rz:=kY k) (hz:=G_) (fun _=>rfl) (fun _=>rfl) (by rw [Kc (Ha _ _)])]
theorem SOk.sch {n:Nat} {L:aa aD} (h:SOk n L) {e:Ed} {k:Int} (hn:(sch n L e k).2=none):SOk n (sch n L e k).1:=⟨by rw [abw];exact h.gr,by rw [aAk hn];exact h.nc⟩
def kC (e:Ed) (s:aD × aa aD) (y:aD):aD × aa aD:=if y.1=e.1/\y.2.1=e.2 then (y,s.2) else (s.1,s.2++[y])
theorem SS (e:Ed):∀(L:aa aD) (o:aD) (acc:aa aD),(L.foldl (kC e) (o,acc)).2=acc++L.filter (fun y=>decide ((y.1,y.2.1)≠e))/\((L.foldl (kC e) (o,acc)).1=o\/((L.foldl (kC e) (o,acc)).1∈L/\((L.foldl (kC e) (o,acc)).1.1,(L.foldl (kC e) (o,acc)).1.2.1)=e))/\((∃y,y∈L/\(y.1,y.2.1)=e)->(L.foldl (kC e) (o,acc)).1∈L/\((L.foldl (kC e) (o,acc)).1.1,(L.foldl (kC e) (o,acc)).1.2.1)=e)
 | [],o,acc=>by simp
 | x::L,o,acc=>by
  rw [gK]
  by_cases hx:x.1=e.1/\x.2.1=e.2
  ·have hxe:(x.1,x.2.1)=e:=by rw [hx.1,hx.2]
   have hs:kC e (o,acc) x=(x,acc):=by unfold kC;rw [if_pos hx]
   rw [hs]
   obtain ⟨h1,h2,h3⟩:=SS e L x acc
   have h4:(L.foldl (kC e) (x,acc)).1∈x::L/\((L.foldl (kC e) (x,acc)).1.1,(L.foldl (kC e) (x,acc)).1.2.1)=e:=by
    rcases h2 with h2|h2
    ·rw [h2];exact ⟨dX ..,hxe⟩
    ·exact ⟨dU _ h2.1,h2.2⟩
   exact ⟨by rw [h1,List.filter_cons_of_neg (by simp [hxe])],.inr h4,fun _=>h4⟩
  ·have hxe:(x.1,x.2.1)≠e:=fun h=>hx ⟨by rw [<-h],by rw [<-h]⟩
   have hs:kC e (o,acc) x=(o,acc++[x]):=by unfold kC;rw [if_neg hx]
   rw [hs]
   obtain ⟨h1,h2,h3⟩:=SS e L o (acc++[x])
   refine ⟨?_,?_,fun h => ?_⟩
   ·rw [h1,List.filter_cons_of_pos (by simpa using hxe)]
    simp
   ·rcases h2 with h2|h2
    ·exact .inl h2
    ·exact .inr ⟨dU _ h2.1,h2.2⟩
   ·obtain ⟨y,hy,uL⟩:=h
    rw [a_] at hy
    rcases hy with rfl|hy
    ·exact absurd uL hxe
    ·have:=h3 ⟨y,hy,uL⟩
     exact ⟨dU _ this.1,this.2⟩
theorem au0 (e:Ed) (L:aa aD) (i:Nat):((L.take i).foldl (kC e) (((0:Int),(0:Int),(0:Int),false),[])).2.length<=i:=by
 rw [(SS e (L.take i) _ []).1];have:=qX (fun y:aD=>decide ((y.1,y.2.1)≠e)) (L.take i);rw [iD] at this;rw [gX];omega
def lvR (n:Nat) (t:aa aD × ah aD):((Int × aa aD) × (Int × aa aD) × (Int × Int)) ⊕ ((Int × aa aD) × (Int × Int) × Bool × Bool):=
 match t.2 with
 | none=>.inl (((n:Int),t.1),((0:Int),[]),((0:Int),(0:Int)))
 | some y=>.inr (((n:Int),t.1),(y.1,y.2.1),true,true)
section
variable {n:Nat} {e:Ed} (ha:0<=e.1/\e.1<n) (hb:0<=e.2/\e.2<n)
include ha hb
theorem aFI (k:Nat) (hk:k<=5) (L:aa aD) (hS:SOk n L):aK BIG (fun self12 x11=>
  Option.bind (bif decide ((0:Int)<=x11.2.2.2) then
   some true
   else some false:ah (Bool)) fun x13=>
  bif x13 then
   Option.bind (qJ (x11.1,e,x11.2.2.2)) fun r14=>
   bif r14.1.2.2 then
    some (Sum.inr (r14.2,(r14.1.1,r14.1.2.1),true,true))
   else self12 (r14.2,x11.2.1,x11.2.2.1,IntKind.wrap .i64 (x11.2.2.2-(1:Int)))
  else some (Sum.inl (x11.1,x11.2.1,x11.2.2.1))) ((((n:Int),L),((0:Int),[]),((0:Int),(0:Int)),(k:Int)-1):(Int × aa aD) × (Int × aa aD) × (Int × Int) × Int)=some (lvR n (yl n e k L)):=by
 have hm:maxLen=9223372036854775807:=by decide
 refine Exists.elim (p_ (F:=fun self12 x11=>
  Option.bind (bif decide ((0:Int)<=x11.2.2.2) then
   some true
   else some false:ah (Bool)) fun x13=>
  bif x13 then
   Option.bind (qJ (x11.1,e,x11.2.2.2)) fun r14=>
   bif r14.1.2.2 then
    some (Sum.inr (r14.2,(r14.1.1,r14.1.2.1),true,true))
   else self12 (r14.2,x11.2.1,x11.2.2.1,IntKind.wrap .i64 (x11.2.2.2-(1:Int)))
  else some (Sum.inl (x11.1,x11.2.1,x11.2.2.1))) (fun (x:(Int × aa aD) × (Int × aa aD) × (Int × Int) × Int)=>∃(k:Nat) (L:aa aD),x=(((n:Int),L),((0:Int),[]),((0:Int),(0:Int)),(k:Int)-1)/\k<=5/\SOk n L) (fun x=>(x.2.2.2+1).toNat)
  (fun x b=>∀(k:Nat) (L:aa aD),x=(((n:Int),L),((0:Int),[]),((0:Int),(0:Int)),(k:Int)-1)->b=lvR n (yl n e k L)) (fun self x hx hs => ?_) (n:=BIG) (x:=(((n:Int),L),((0:Int),[]),((0:Int),(0:Int)),(k:Int)-1)) (by simp [BIG];omega) ⟨k,L,rfl,hk,hS⟩) fun b RF => ?_
 rotate_left
 ·rw [RF.1,RF.2 k L rfl]
 ·obtain ⟨k,L,rfl,hk,hS⟩:=hx;simp only at hs ⊢;have uniq:∀{k':Nat} {L':aa aD} ,((((n:Int),L),((0:Int),[]),((0:Int),(0:Int)),(k:Int)-1):(Int × aa aD) × (Int × aa aD) × (Int × Int) × Int)=(((n:Int),L'),((0:Int),[]),((0:Int),(0:Int)),(k':Int)-1)->k'=k/\L'=L:=by
   intro k' L' h;simp only [di,true_and] at h;exact ⟨by omega,h.1.symm⟩
  cases k with
  | zero=>
   rw [aA (by omega),ax,ae,ax];refine ⟨_,rfl,fun k' L' h => ?_⟩;obtain ⟨rfl,rfl⟩:=uniq h;rfl
  | succ k=>
   have FY:((k+1:Nat):Int)-1=(k:Int):=by omega
   rw [FY,ak (by omega),ai,ae,ai,aB3 hS.gr ha hb (by omega) (by omega),ae];cases uJ:(sch n L e (k:Int)).2 with
   | none=>
    simp only [ax];rw [wr (by omega) (by omega)];obtain ⟨b,g1,g2⟩:=hs (((n:Int),(sch n L e (k:Int)).1),((0:Int),[]),((0:Int),(0:Int)),(k:Int)-1) ⟨k,_,rfl,by omega,hS.sch uJ⟩ (by simp only;omega);refine ⟨b,g1,fun k' L' h => ?_⟩;rw [<-FY] at h;obtain ⟨rfl,rfl⟩:=uniq h;rw [g2 k _ rfl];show _=lvR n (match (sch n L' e (k:Int)).2 with|none=>_|some (_,y)=>_);rw [uJ]
   | some r=>
    obtain ⟨j,y⟩:=r;simp only [ai];refine ⟨_,rfl,fun k' L' h => ?_⟩;rw [<-FY] at h;obtain ⟨rfl,rfl⟩:=uniq h;show _=lvR n (match (sch n L' e (k:Int)).2 with|none=>_|some (_,y)=>_);rw [uJ];rfl
theorem aFJ (k:Nat) (hk:k<=5) (L:aa aD) (hS:SOk n L):aK BIG (fun self18 x17=>
  bif decide ((0:Int)<=x17.2.2.2) then
   Option.bind (sD (x17.1,e,x17.2.2.2)) fun r19=>
   bif decide ((0:Int)<=r19.1.2) then
    bnd r19.1.1.length r19.1.2 fun n20=>
    Option.bind r19.1.1[n20]? fun y21=>
    bnd r19.1.1.length r19.1.2 fun n22=>
    Option.bind r19.1.1[n22]? fun y23=>
    some (Sum.inr ((x17.1.1,r19.1.1),(y21.1,y23.2.1),true,true))
   else self18 ((x17.1.1,r19.1.1),x17.2.1,x17.2.2.1,IntKind.wrap .i64 (x17.2.2.2-(1:Int)))
  else some (Sum.inl (x17.1,x17.2.1,x17.2.2.1))) ((((n:Int),L),((0:Int),[]),((0:Int),(0:Int)),(k:Int)-1):(Int × aa aD) × (Int × aa aD) × (Int × Int) × Int)=some (lvR n (yl n e k L)):=by
 have hm:maxLen=9223372036854775807:=by decide
 refine Exists.elim (p_ (F:=fun self18 x17=>
  bif decide ((0:Int)<=x17.2.2.2) then
   Option.bind (sD (x17.1,e,x17.2.2.2)) fun r19=>
   bif decide ((0:Int)<=r19.1.2) then
    bnd r19.1.1.length r19.1.2 fun n20=>
    Option.bind r19.1.1[n20]? fun y21=>
    bnd r19.1.1.length r19.1.2 fun n22=>
    Option.bind r19.1.1[n22]? fun y23=>
    some (Sum.inr ((x17.1.1,r19.1.1),(y21.1,y23.2.1),true,true))
   else self18 ((x17.1.1,r19.1.1),x17.2.1,x17.2.2.1,IntKind.wrap .i64 (x17.2.2.2-(1:Int)))
  else some (Sum.inl (x17.1,x17.2.1,x17.2.2.1))) (fun (x:(Int × aa aD) × (Int × aa aD) × (Int × Int) × Int)=>∃(k:Nat) (L:aa aD),x=(((n:Int),L),((0:Int),[]),((0:Int),(0:Int)),(k:Int)-1)/\k<=5/\SOk n L) (fun x=>(x.2.2.2+1).toNat)
  (fun x b=>∀(k:Nat) (L:aa aD),x=(((n:Int),L),((0:Int),[]),((0:Int),(0:Int)),(k:Int)-1)->b=lvR n (yl n e k L)) (fun self x hx hs => ?_) (n:=BIG) (x:=(((n:Int),L),((0:Int),[]),((0:Int),(0:Int)),(k:Int)-1)) (by simp [BIG];omega) ⟨k,L,rfl,hk,hS⟩) fun b RF => ?_
 rotate_left
 ·rw [RF.1,RF.2 k L rfl]
 ·obtain ⟨k,L,rfl,hk,hS⟩:=hx;simp only at hs ⊢;have uniq:∀{k':Nat} {L':aa aD} ,((((n:Int),L),((0:Int),[]),((0:Int),(0:Int)),(k:Int)-1):(Int × aa aD) × (Int × aa aD) × (Int × Int) × Int)=(((n:Int),L'),((0:Int),[]),((0:Int),(0:Int)),(k':Int)-1)->k'=k/\L'=L:=by
   intro k' L' h;simp only [di,true_and] at h;exact ⟨by omega,h.1.symm⟩
  cases k with
  | zero=>
   rw [aA (by omega),ax];refine ⟨_,rfl,fun k' L' h => ?_⟩;obtain ⟨rfl,rfl⟩:=uniq h;rfl
  | succ k=>
   have FY:((k+1:Nat):Int)-1=(k:Int):=by omega
   rw [FY,ak (by omega),ai,awV hS.gr ha hb (by omega) (by omega) (hS.nc.sub (aDT L k)),ae];cases uJ:(sch n L e (k:Int)).2 with
   | none=>
    simp only;rw [aA (by omega),ax,wr (by omega) (by omega)];obtain ⟨b,g1,g2⟩:=hs (((n:Int),(sch n L e (k:Int)).1),((0:Int),[]),((0:Int),(0:Int)),(k:Int)-1) ⟨k,_,rfl,by omega,hS.sch uJ⟩ (by simp only;omega);refine ⟨b,g1,fun k' L' h => ?_⟩;rw [<-FY] at h;obtain ⟨rfl,rfl⟩:=uniq h;rw [g2 k _ rfl];show _=lvR n (match (sch n L' e (k:Int)).2 with|none=>_|some (_,y)=>_);rw [uJ]
   | some r=>
    obtain ⟨j,y⟩:=r;have hj:(sch n L e (k:Int)).1[j]?=some y:=aAj uJ;have uK:=(bf hj).1;have bj:∀{B:Type} {q:Nat->ah B},bnd (sch n L e (k:Int)).1.length (j:Int) q=q j:=fun {B q}=>aH uK
    simp only;rw [ak (by omega),ai];simp only [bj,hj,ae];refine ⟨_,rfl,fun k' L' h => ?_⟩;rw [<-FY] at h;obtain ⟨rfl,rfl⟩:=uniq h;show _=lvR n (match (sch n L' e (k:Int)).2 with|none=>_|some (_,y)=>_);rw [uJ];rfl
end
theorem Rl (n : Int) (L : aa aD) (e : Ed) (hL : L.length ≤ 1000000) : ∃ r : Int × aa aD × Int × Int × Bool × Bool, jX ((n, L), e) = some (r, ()) ∧ kS ((n, L), e) = some (r, ()) ∧ r.2.1.length ≤ 66 ∧ (¬ (0 ≤ n ∧ WOk n.toNat L ∧ e ∈ gE L) → r = (0, [], 0, 0, false, false)) ∧ ((0 ≤ n ∧ WOk n.toNat L ∧ e ∈ gE L) → ∃ old, old ∈ L ∧ (old.1, old.2.1) = e ∧ r.1 = n ∧ r.2.2.2.2.2 = true ∧ r.2.1 = if old.2.2.2 = true then (yl n.toNat e (old.2.2.1.toNat + 1) (L.filter fun y => decide ((y.1, y.2.1) ≠ e))).1 else L.filter fun y => decide ((y.1, y.2.1) ≠ e)) := by
  have hm : maxLen = 9223372036854775807 := by decide
  have hgl : (gE L).length = L.length := by unfold gE; rw [dY]
  have hGi : mg (n, L) = some ((n, gE L), ()) := Dc n L (by omega);have hGs : mf (n, L) = some ((n, gE L), ()) := yc n L (by omega);obtain ⟨b, b1, b2⟩ := FD n L (by omega);obtain ⟨b', b1', b2'⟩ := FF n L (by omega);have RF : b' = b := by cases b <;> cases b' <;> simp_all
  subst RF;show ∃ r : Int × aa aD × Int × Int × Bool × Bool, Ml BIG _ = _ ∧ LJ BIG _ = _ ∧ _;rw [aqX, aqp, b1, b1', ae, ae, hGi, hGs];cases b' with
  | false => exact ⟨_, rfl, rfl, by simp, fun _ => rfl, fun h => absurd (b2.2 ⟨h.1, h.2.1⟩) (by simp)⟩
  | true =>
    obtain ⟨n0, hw⟩ := b2.1 rfl;obtain ⟨m, rfl⟩ : ∃ m : Nat, n = (m : Int) := ⟨n.toNat, by omega⟩
    rw [iB] at hw;have hg := hw.gr;obtain ⟨h1, dQ⟩ := zX hg;obtain ⟨mM, V8, RB⟩ := kr hg;simp only [bC, ax, ae];rw [abg _ _ _ (by omega), abf _ _ _ (by omega), ae, ae];by_cases bq : e ∈ gE L;case neg =>
      rw [aA bq];exact ⟨_, rfl, rfl, by simp, fun _ => rfl, fun h => absurd h.2.2 bq⟩
    rw [ak bq];simp only [bC, ax, ae];have jf := fQ (mM e bq)
    -- the lost one and the others
    have li : aK BIG (fun self5 x4 =>
    bif decide (x4.2.2 < (L.length : Int)) then
     Option.bind (bnd L.length x4.2.2 fun n6 =>
      Option.bind L[n6]? fun y7 =>
      Option.bind (bif decide (y7.1 = e.1) then
        some (decide (y7.2.1 = e.2))
       else some false : ah (Bool)) fun x8 =>
      bif x8 then
       some (y7, x4.2.1)
      else bif decide (x4.2.1.2.length + [y7].length ≤ 4294967296) then
       some (x4.1, (x4.2.1.1, x4.2.1.2 ++ [y7]))
      else none : ah ((Int × Int × Int × Bool) × (Int × aa (Int × Int × Int × Bool)))) fun x9 =>
     self5 (x9.1, x9.2, IntKind.wrap .i64 (x4.2.2 + (1 : Int)))
    else some (x4.1, x4.2.1)) ((((0 : Int), (0 : Int), (0 : Int), false), ((m : Int), []), (0 : Int)) : aD × (Int × aa aD) × Int) = some ((L.foldl (kC e) (((0 : Int), (0 : Int), (0 : Int), false), [])).1, ((m : Int), (L.foldl (kC e) (((0 : Int), (0 : Int), (0 : Int), false), [])).2)) := by
      refine kI (fun (x : aD × (Int × aa aD) × Int) => ∃ i : Nat, i ≤ L.length ∧ x = (((L.take i).foldl (kC e) (((0 : Int), (0 : Int), (0 : Int), false), [])).1, ((m : Int), ((L.take i).foldl (kC e) (((0 : Int), (0 : Int), (0 : Int), false), [])).2), (i : Int))) (fun x => L.length - x.2.2.toNat) (fun _ => _) (fun self x ⟨i, h1, h2⟩ hs => ?_) (n := BIG) (x := _) (by simp [BIG]; omega) ⟨0, by omega, rfl⟩;subst h2;simp only;by_cases hi : i < L.length
      · have yS := au0 e L i
        simp only [show ((i : Int) < (L.length : Int)) from by omega, decide_true, ai]
        rw [aH hi, aT hi, ae, bV (by omega)]
        have gU : (L.take (i + 1)).foldl (kC e) (((0 : Int), (0 : Int), (0 : Int), false), []) = kC e ((L.take i).foldl (kC e) (((0 : Int), (0 : Int), (0 : Int), false), [])) L[i] := by
          rw [rO hi, pR]; rfl
        have hn := hs (((L.take (i + 1)).foldl (kC e) (((0 : Int), (0 : Int), (0 : Int), false), [])).1, ((m : Int), ((L.take (i + 1)).foldl (kC e) (((0 : Int), (0 : Int), (0 : Int), false), [])).2), ((i + 1 : Nat) : Int)) ⟨i + 1, hi, rfl⟩ (by simp; omega)
        rw [gU] at hn
        unfold kC at hn
        by_cases c1 : L[i].1 = e.1
        · rw [ak c1, ai, ae]
          by_cases c2 : L[i].2.1 = e.2
          · rw [ak c2, ai, ae]
            rw [if_pos ⟨c1, c2⟩] at hn
            exact hn
          · rw [aA c2, ax, ak (by simp only [bI, bS]; omega), ai, ae]
            rw [if_neg (fun h => c2 h.2)] at hn
            exact hn
        · rw [aA c1, ax, ae, ax, ak (by simp only [bI, bS]; omega), ai, ae]
          rw [if_neg (fun h => c1 h.1)] at hn
          exact hn
      · simp only [show ¬ ((i : Int) < (L.length : Int)) from by omega, decide_false, ax]
        have : i = L.length := by omega
        subst this
        rw [nN]
    have ls : aK BIG (fun self5 x4 =>
    bif decide (x4.2.2 < (L.length : Int)) then
     Option.bind (Option.bind (bnd L.length x4.2.2 fun n6 =>
       Option.bind L[n6]? fun y7 =>
       bif decide (y7.1 = e.1) then
        bnd L.length x4.2.2 fun n8 =>
        Option.bind L[n8]? fun y9 =>
        some (decide (y9.2.1 = e.2))
       else some false : ah (Bool)) fun x10 =>
      bif x10 then
       bnd L.length x4.2.2 fun n11 =>
       Option.bind L[n11]? fun y12 =>
       some (y12, x4.2.1)
      else bnd L.length x4.2.2 fun n13 =>
      Option.bind L[n13]? fun y14 =>
      bif decide (x4.2.1.2.length + [y14].length ≤ 4294967296) then
       some (x4.1, (x4.2.1.1, x4.2.1.2 ++ [y14]))
      else none : ah ((Int × Int × Int × Bool) × (Int × aa (Int × Int × Int × Bool)))) fun x15 =>
     self5 (x15.1, x15.2, IntKind.wrap .i64 (x4.2.2 + (1 : Int)))
    else some (x4.1, x4.2.1)) ((((0 : Int), (0 : Int), (0 : Int), false), ((m : Int), []), (0 : Int)) : aD × (Int × aa aD) × Int) = some ((L.foldl (kC e) (((0 : Int), (0 : Int), (0 : Int), false), [])).1, ((m : Int), (L.foldl (kC e) (((0 : Int), (0 : Int), (0 : Int), false), [])).2)) := by
      refine kI (fun (x : aD × (Int × aa aD) × Int) => ∃ i : Nat, i ≤ L.length ∧ x = (((L.take i).foldl (kC e) (((0 : Int), (0 : Int), (0 : Int), false), [])).1, ((m : Int), ((L.take i).foldl (kC e) (((0 : Int), (0 : Int), (0 : Int), false), [])).2), (i : Int))) (fun x => L.length - x.2.2.toNat) (fun _ => _) (fun self x ⟨i, h1, h2⟩ hs => ?_) (n := BIG) (x := _) (by simp [BIG]; omega) ⟨0, by omega, rfl⟩;subst h2;simp only;by_cases hi : i < L.length
      · have yS := au0 e L i
        have bi : ∀ {B : Type} {q : Nat → ah B}, bnd L.length (i : Int) q = q i := fun {B q} => aH hi
        simp only [show ((i : Int) < (L.length : Int)) from by omega, decide_true, ai, bi, aT hi, ae]
        rw [bV (by omega)]
        have gU : (L.take (i + 1)).foldl (kC e) (((0 : Int), (0 : Int), (0 : Int), false), []) = kC e ((L.take i).foldl (kC e) (((0 : Int), (0 : Int), (0 : Int), false), [])) L[i] := by
          rw [rO hi, pR]; rfl
        have hn := hs (((L.take (i + 1)).foldl (kC e) (((0 : Int), (0 : Int), (0 : Int), false), [])).1, ((m : Int), ((L.take (i + 1)).foldl (kC e) (((0 : Int), (0 : Int), (0 : Int), false), [])).2), ((i + 1 : Nat) : Int)) ⟨i + 1, hi, rfl⟩ (by simp; omega)
        rw [gU] at hn
        unfold kC at hn
        by_cases c1 : L[i].1 = e.1
        · rw [ak c1, ai, ae]
          by_cases c2 : L[i].2.1 = e.2
          · rw [ak c2, ai, ae]
            rw [if_pos ⟨c1, c2⟩] at hn
            exact hn
          · rw [aA c2, ax, ak (by simp only [bI, bS]; omega), ai, ae]
            rw [if_neg (fun h => c2 h.2)] at hn
            exact hn
        · rw [aA c1, ax, ae, ax, ak (by simp only [bI, bS]; omega), ai, ae]
          rw [if_neg (fun h => c1 h.1)] at hn
          exact hn
      · simp only [show ¬ ((i : Int) < (L.length : Int)) from by omega, decide_false, ax]
        have : i = L.length := by omega
        subst this
        rw [nN]
    rw [li, ls, ae, ae];obtain ⟨s1, s2, s3⟩ := SS e L (((0 : Int), (0 : Int), (0 : Int), false)) [];have mh := s3 (by
      obtain ⟨y, hy, uL⟩ := bY.1 bq
      exact ⟨y, hy, uL⟩)
    rw [gX] at s1;generalize L.foldl (kC e) (((0 : Int), (0 : Int), (0 : Int), false), []) = S at s1 mh;obtain ⟨old, rest⟩ := S;simp only at s1 mh ⊢;obtain ⟨mh, arO⟩ := mh;have akS : 0 ≤ (m : Int) ∧ WOk (m : Int).toNat L ∧ e ∈ gE L := ⟨n0, by rw [iB]; exact hw, bq⟩
    have gT : rest.Sublist L := by rw [s1]; exact XX
    have hrl := gT.length_le;have gP : jZ m (gE rest) = true := by
      have hsE : (gE rest).Sublist (gE L) := List.Sublist.map _ gT;have akR : uG (gE L) := by
        have h := hg;unfold jZ at h;rw [aU] at h;exact (lw h.2).2.1
      have hG : GrOk (m : Int) (gE rest) := ⟨by omega, by omega, List.Pairwise.sublist hsE akR, fun x hx => mM x (hsE.subset hx)⟩
      unfold jZ;rw [show aY (m : Int) 1 12 = true from aW.2 (by omega), Q_ hG (by unfold gE; rw [dY]; omega)];rfl
    have Hq : NoCyc (qm rest) := by
      have : NoCyc (qm L) := by rw [arj hw.lv]; exact hw.nc
      exact this.sub fun x hx => (List.Sublist.map _ (List.Sublist.filter _ gT)).subset hx
    have lV := hw.lv old mh;cases ht : old.2.2.2 with
    | false =>
      have h0 : ∀ x : Int, (bif decide ((0 : Int) ≤ x) then some false else some false : ah Bool) = some false := fun x => by cases decide ((0 : Int) ≤ x) <;> rfl
      refine ⟨((m : Int), rest, (0 : Int), (0 : Int), false, true), ?_, rfl, by simp only; omega, fun h => absurd akS h, fun _ => ⟨old, mh, arO, rfl, rfl, by rw [if_neg (by rw [ht]; simp)]; exact s1⟩⟩;have : aK BIG (fun (self12 : (Int × aa aD) × (Int × aa aD) × (Int × Int) × Int → ah (((Int × aa aD) × (Int × aa aD) × (Int × Int)) ⊕ ((Int × aa aD) × (Int × Int) × Bool × Bool))) x11 =>
    Option.bind (bif decide ((0 : Int) ≤ x11.2.2.2) then
      some false
     else some false : ah (Bool)) fun x13 =>
    bif x13 then
     Option.bind (qJ (x11.1, e, x11.2.2.2)) fun r14 =>
     bif r14.1.2.2 then
      some (Sum.inr (r14.2, (r14.1.1, r14.1.2.1), true, true))
     else self12 (r14.2, x11.2.1, x11.2.2.1, IntKind.wrap .i64 (x11.2.2.2 - (1 : Int)))
    else some (Sum.inl (x11.1, x11.2.1, x11.2.2.1))) ((((m : Int), rest), ((0 : Int), []), ((0 : Int), (0 : Int)), old.2.2.1) : (Int × aa aD) × (Int × aa aD) × (Int × Int) × Int) = some (Sum.inl (((m : Int), rest), ((0 : Int), []), ((0 : Int), (0 : Int)))) := by
        refine kI (fun x => x = ((((m : Int), rest), ((0 : Int), []), ((0 : Int), (0 : Int)), old.2.2.1) : (Int × aa aD) × (Int × aa aD) × (Int × Int) × Int)) (fun _ => 0) (fun _ => _) (fun self x hx hs => ?_) (n := BIG) (x := _) (by simp [BIG]) rfl;subst hx;rw [h0, ae, ax]
      rw [this, ae]
    | true =>
      have FY : old.2.2.1 = ((old.2.2.1.toNat + 1 : Nat) : Int) - 1 := by omega
      have t1 := aFI ⟨jf.1, jf.2.1⟩ ⟨jf.2.2.1, jf.2.2.2.1⟩ (old.2.2.1.toNat + 1) (by omega) rest ⟨gP, Hq⟩;have t2 := aFJ ⟨jf.1, jf.2.1⟩ ⟨jf.2.2.1, jf.2.2.2.1⟩ (old.2.2.1.toNat + 1) (by omega) rest ⟨gP, Hq⟩;rw [← FY] at t1 t2;simp only [bC, ax];rw [t1, t2, ae, ae];have hl := aj4 m e (old.2.2.1.toNat + 1) rest;rw [iB];subst s1;generalize NM : yl m e (old.2.2.1.toNat + 1) (L.filter fun y => decide ((y.1, y.2.1) ≠ e)) = t at hl;obtain ⟨M, o⟩ := t;simp only at hl;cases o with
      | none => exact ⟨_, rfl, rfl, by simp only; omega, fun h => absurd akS h, fun _ => ⟨old, mh, arO, rfl, rfl, by rw [if_pos ht, NM]⟩⟩
      | some y => exact ⟨_, rfl, rfl, by simp only; omega, fun h => absurd akS h, fun _ => ⟨old, mh, arO, rfl, rfl, by rw [if_pos ht, NM]⟩⟩
abbrev Wb:=Int × List aD
noncomputable def WT (W:Wb) (e:Ed):Int × aa aD × Int × Int × Bool × Bool:=((jX (W,e)).getD ((0,[],0,0,false,false),())).1
noncomputable def WA (W:Wb) (e:Ed):Int × aa aD × Bool:=((wB (W,e)).getD ((0,[],false),())).1
theorem abx {W:Wb} (e:Ed) (h:W.2.length<=1000000):jX (W,e)=some (WT W e,())/\kS (W,e)=some (WT W e,())/\(WT W e).2.1.length<=66:=by
 obtain ⟨n,L⟩:=W;obtain ⟨r,h1,h2,h3,_⟩:=Rl n L e h;have:WT (n,L) e=r:=by unfold WT;rw [h1];rfl
 rw [this];exact ⟨h1,h2,h3⟩
theorem arn {W:Wb} (e:Ed) (h:W.2.length<=1000000):wB (W,e)=some (WA W e,())/\Bi (W,e)=some (WA W e,())/\(WA W e).2.1.length<=67:=by
 obtain ⟨n,L⟩:=W;obtain ⟨r,h1,h2,h3,_⟩:=XH n L e h;have:WA (n,L) e=r:=by unfold WA;rw [h1];rfl
 rw [this];exact ⟨h1,h2,h3⟩
theorem qo (y:An) (h1:y.2.2.1.length<=1048576) (h2:y.2.2.2.length<=1048576):lL y=some (y,()):=by
 show BN BIG _=_;have hi:mF y.2.2.2=some (y.2.2.2,()):=by
  show Am BIG _=_;rw [UI,ak (by omega)];rfl
 rw [age,Fx _ h1,ae,hi];rfl
theorem ni (y:An) (h1:y.2.2.1.length<=1048576) (h2:y.2.2.2.length<=1048576):jD y=some (y,()):=by
 show vI BIG _=_;rw [Xa,ak (by omega),ai,ak (by omega),ai];rfl
theorem ym (x0 x1:Int) (L:aa aD) (y:An) (hL:L.length<=1048576) (h1:y.2.2.1.length<=1048576) (h2:y.2.2.2.length<=1048576):E_ (x0,x1,L,y)=some ((x0,x1,L,y),()):=by
 show E9 BIG _=_;have hw:xX (x1,L)=some ((x1,L),()):=by
  show C_ BIG _=_;rw [aaW,ak (by simp only;omega)];rfl
 rw [ajl];simp only [hw,ae,qo y h1 h2]
theorem yn (x0 x1:Int) (L:aa aD) (y:An) (hL:L.length<=1048576) (h1:y.2.2.1.length<=1048576) (h2:y.2.2.2.length<=1048576):p8 (x0,x1,L,y)=some ((x0,x1,L,y),()):=by
 show LB BIG _=_;rw [aqh,ak (by simp only;omega),ai];simp only [ni y h1 h2,ae,gX]
theorem awW (n:Int) (L:aa aD) (hL:L.length<=1048576):∃V,mY (n,L)=some (V,())/\mX (n,L)=some (V,())/\V.length<=12:=by
 by_cases hn:0<=n
 ·obtain ⟨m,rfl⟩:∃m:Nat,n=(m:Int):=⟨n.toNat,by omega⟩
  obtain ⟨V,v1,v2,v3⟩:=FE m L hL;obtain ⟨V',v1',v2',v3'⟩:=FH m L hL;by_cases hw:WOk m L
  ·have:=dV m (aN L 0);have:=(zX hw.gr).2;rw [v2 hw] at v1;rw [v2' hw] at v1';exact ⟨_,v1,v1',by omega⟩
  ·rw [v3 hw] at v1;rw [v3' hw] at v1';exact ⟨_,v1,v1',by simp⟩
 ·obtain ⟨b,b1,b2⟩:=FD n L hL;obtain ⟨b',b1',b2'⟩:=FF n L hL;have e1:b=false:=by
   cases b with
   | false=>rfl
   | true=>exact absurd (b2.1 rfl).1 hn
  have e2:b'=false:=by
   cases b' with
   | false=>rfl
   | true=>exact absurd (b2'.1 rfl).1 hn
  subst e1 e2;refine ⟨[],?_,?_,by simp⟩
  ·show xW BIG _=_;rw [QK,b1];rfl
  ·show xO BIG _=_;rw [Px,b1'];rfl
noncomputable def iW (v:Int) (s:Wb × aa Ed) (y:Ed):Wb × aa Ed:=if y.1=v\/y.2=v then (((WT s.1 y).1,(WT s.1 y).2.1),s.2++[y]) else s
noncomputable def jA (s:Wb × Bool) (y:Ed):Wb × Bool:=(if (WA s.1 y).2.2=true then ((WA s.1 y).1,(WA s.1 y).2.1) else s.1,s.2&&(WA s.1 y).2.2)
theorem Ke (v:Int):∀(es:aa Ed) (s:Wb × aa Ed),s.1.2.length<=1000000->(es.foldl (iW v) s).1.2.length<=1000000/\(es.foldl (iW v) s).2.length<=s.2.length+es.length
 | [],s,h=>⟨h,by simp⟩
 | y::es,s,h=>by
  rw [gK];have h1:=(abx y h).2.2;by_cases hc:y.1=v\/y.2=v
  ·have hs:iW v s y=(((WT s.1 y).1,(WT s.1 y).2.1),s.2++[y]):=by unfold iW;rw [if_pos hc]
   obtain ⟨a,b⟩:=Ke v es (iW v s y) (by rw [hs];simp only;omega);refine ⟨a,?_⟩;rw [hs] at b ⊢;simp only [dR,bI,bS] at b ⊢;omega
  ·have hs:iW v s y=s:=by unfold iW;rw [if_neg hc]
   obtain ⟨a,b⟩:=Ke v es (iW v s y) (by rw [hs];exact h);refine ⟨a,?_⟩;rw [hs] at b ⊢;simp only [bI];omega
theorem SY:∀(es:aa Ed) (s:Wb × Bool),s.1.2.length<=1000000->(es.foldl jA s).1.2.length<=1000000
 | [],s,h=>h
 | y::es,s,h=>by
  rw [gK];have h1:=(arn y h).2.2;refine SY es _ ?_;unfold jA;simp only;split
  ·simp only;omega
  ·exact h
theorem He {α S:Type} (st:S->α->S) (s:S) {l:aa α} {i:Nat} (hi:i<l.length):(l.take (i+1)).foldl st s=st ((l.take i).foldl st s) l[i]:=by
 rw [rO hi,pR];rfl
section
variable (x0 n:Int) (L:aa aD) (y:An) (hL:L.length<=1000000)
include hL
theorem afH (v:Int):p9 ((x0,n,L,y),v)=some (((gE L).foldl (iW v) ((n,L),[])).2,(x0,((gE L).foldl (iW v) ((n,L),[])).1.1,((gE L).foldl (iW v) ((n,L),[])).1.2,y)):=by
 have hm:maxLen=9223372036854775807:=by decide
 have hgl:(gE L).length=L.length:=by unfold gE;rw [dY]
 have hO:Mo (x0,n,L,y)=some (gE L,()):=awR x0 n L y.1 y.2.1 y.2.2.1 y.2.2.2 (by omega);show vO BIG _=_;rw [Xw,hO,ae];generalize gE L=E at hgl;have:aK BIG (fun self2 x1=>
  bif decide (x1.2.2<(E.length:Int)) then
   Option.bind (bnd E.length x1.2.2 fun n3=>
    Option.bind E[n3]? fun y4=>
    Option.bind (bif decide (y4.1=v) then
     some true
     else some (decide (y4.2=v)):ah (Bool)) fun x5=>
    bif x5 then
     Option.bind (jX ((x1.1.2.1,x1.1.2.2.1),y4)) fun r6=>
     bif decide (x1.2.1.length+[y4].length<=4294967296) then
      some ((x1.1.1,r6.1.1,r6.1.2.1,x1.1.2.2.2),x1.2.1++[y4])
     else none
    else some (x1.1,x1.2.1):ah ((Int × Int × aa (Int × Int × Int × Bool) × Int × Bool × aa (Int × Int) × aa (Int)) × (aa (Int × Int)))) fun x7=>
   self2 (x7.1,x7.2,IntKind.wrap .i64 (x1.2.2+(1:Int)))
  else some (x1.1,x1.2.1)) (((x0,n,L,y),[],(0:Int)):(Int × Int × aa aD × An) × aa Ed × Int)=some ((x0,(E.foldl (iW v) ((n,L),[])).1.1,(E.foldl (iW v) ((n,L),[])).1.2,y),(E.foldl (iW v) ((n,L),[])).2):=by
  refine kI (fun (x:(Int × Int × aa aD × An) × aa Ed × Int)=>∃i:Nat,i<=E.length/\x=((x0,((E.take i).foldl (iW v) ((n,L),[])).1.1,((E.take i).foldl (iW v) ((n,L),[])).1.2,y),((E.take i).foldl (iW v) ((n,L),[])).2,(i:Int))) (fun x=>E.length-x.2.2.toNat) (fun _=>_) (fun self x ⟨i,h1,h2⟩ hs => ?_) (n:=BIG) (x:=_) (by simp [BIG];omega) ⟨0,by omega,rfl⟩;subst h2;simp only;by_cases hi:i<E.length
  ·obtain ⟨l1,l2⟩:=Ke v (E.take i) ((n,L),[]) hL;rw [iD] at l2;simp only [bS] at l2;have hn:=hs ((x0,((E.take (i+1)).foldl (iW v) ((n,L),[])).1.1,((E.take (i+1)).foldl (iW v) ((n,L),[])).1.2,y),((E.take (i+1)).foldl (iW v) ((n,L),[])).2,((i+1:Nat):Int)) ⟨i+1,hi,rfl⟩ (by simp;omega);rw [He _ _ hi] at hn;obtain ⟨t1,_,t3⟩:=abx E[i] l1;generalize (E.take i).foldl (iW v) ((n,L),[])=s at l1 l2 hn t1 t3;obtain ⟨⟨a,M⟩,out⟩:=s;simp only at l1 l2 t1 t3;unfold iW at hn;simp only [show ((i:Int)<(E.length:Int)) from by omega,decide_true,ai];rw [aH hi,aT hi,ae,bV (by omega)];have hc:(bif decide (E[i].1=v) then some true else some (decide (E[i].2=v)):ah Bool)=some (decide (E[i].1=v\/E[i].2=v)):=by
    by_cases c1:E[i].1=v<;>by_cases c2:E[i].2=v<;>simp [c1,c2]
   rw [hc,ae];by_cases c:E[i].1=v\/E[i].2=v
   ·rw [ak c,ai,t1,ae,ak (by simp only [bI,bS];omega),ai,ae];rw [if_pos c] at hn;exact hn
   ·rw [aA c,ax,ae];rw [if_neg c] at hn;exact hn
  ·simp only [show ¬((i:Int)<(E.length:Int)) from by omega,decide_false,ax];have:i=E.length:=by omega
   subst this;rw [nN]
 rw [this,ae]
theorem aby (v num:Int) (E:aa Ed) (hE:E.length<=1000000):aK BIG (fun self20 x19=>
   bif decide (x19.2.2<(E.length:Int)) then
    Option.bind (Option.bind (bnd E.length x19.2.2 fun n21=>
     Option.bind E[n21]? fun y22=>
     bif decide (y22.1=v) then
      some true
     else bnd E.length x19.2.2 fun n23=>
     Option.bind E[n23]? fun y24=>
     some (decide (y24.2=v)):ah (Bool)) fun x25=>
     bif x25 then
      bnd E.length x19.2.2 fun n26=>
      Option.bind E[n26]? fun y27=>
      Option.bind (kS (x19.1,y27)) fun r28=>
      bnd E.length x19.2.2 fun n29=>
      Option.bind E[n29]? fun y30=>
      bif decide (x19.2.1.2.2.1.length+[y30].length<=4294967296) then
       some ((r28.1.1,r28.1.2.1),(x19.2.1.1,x19.2.1.2.1,x19.2.1.2.2.1++[y30],x19.2.1.2.2.2))
      else none
     else some (x19.1,x19.2.1):ah ((Int × aa (Int × Int × Int × Bool)) × (Int × Bool × aa (Int × Int) × aa (Int)))) fun x31=>
    self20 (x31.1,x31.2,IntKind.wrap .i64 (x19.2.2+(1:Int)))
   else some (x19.1,x19.2.1)) (((n,L),(num,true,[],[]),(0:Int)):Wb × An × Int)=some ((E.foldl (iW v) ((n,L),[])).1,(num,true,(E.foldl (iW v) ((n,L),[])).2,[])):=by
 have hm:maxLen=9223372036854775807:=by decide
 refine kI (fun (x:Wb × An × Int)=>∃i:Nat,i<=E.length/\x=(((E.take i).foldl (iW v) ((n,L),[])).1,(num,true,((E.take i).foldl (iW v) ((n,L),[])).2,[]),(i:Int))) (fun x=>E.length-x.2.2.toNat) (fun _=>_) (fun self x ⟨i,h1,h2⟩ hs => ?_) (n:=BIG) (x:=_) (by simp [BIG];omega) ⟨0,by omega,rfl⟩;subst h2;simp only;by_cases hi:i<E.length
 ·obtain ⟨l1,l2⟩:=Ke v (E.take i) ((n,L),[]) hL;rw [iD] at l2;simp only [bS] at l2;have hn:=hs (((E.take (i+1)).foldl (iW v) ((n,L),[])).1,(num,true,((E.take (i+1)).foldl (iW v) ((n,L),[])).2,[]),((i+1:Nat):Int)) ⟨i+1,hi,rfl⟩ (by simp;omega);rw [He _ _ hi] at hn;obtain ⟨_,t1,t3⟩:=abx E[i] l1;generalize (E.take i).foldl (iW v) ((n,L),[])=s at l1 l2 hn t1 t3;obtain ⟨W,out⟩:=s;simp only at l1 l2 t1 t3;unfold iW at hn;have bi:∀{B:Type} {q:Nat->ah B},bnd E.length (i:Int) q=q i:=fun {B q}=>aH hi
  simp only [show ((i:Int)<(E.length:Int)) from by omega,decide_true,ai,bi,aT hi,ae];rw [bV (by omega)];have hc:(bif decide (E[i].1=v) then some true else some (decide (E[i].2=v)):ah Bool)=some (decide (E[i].1=v\/E[i].2=v)):=by
   by_cases c1:E[i].1=v<;>by_cases c2:E[i].2=v<;>simp [c1,c2]
  rw [hc,ae];by_cases c:E[i].1=v\/E[i].2=v
  ·rw [ak c,ai,t1,ae,ak (by simp only [bI,bS];omega),ai,ae];rw [if_pos c] at hn;exact hn
  ·rw [aA c,ax,ae];rw [if_neg c] at hn;exact hn
 ·simp only [show ¬((i:Int)<(E.length:Int)) from by omega,decide_false,ax];have:i=E.length:=by omega
  subst this;rw [nN]
theorem aj5 (E:aa Ed) (hE:E.length<=1000000):rF ((x0,n,L,y),E)=some ((E.foldl jA ((n,L),true)).2,(x0,(E.foldl jA ((n,L),true)).1.1,(E.foldl jA ((n,L),true)).1.2,y)):=by
 have hm:maxLen=9223372036854775807:=by decide
 show xY BIG _=_;rw [aa8];have:aK BIG (fun self1 x0=>
  bif decide (x0.2.2<(E.length:Int)) then
   Option.bind (bnd E.length x0.2.2 fun n2=>
    Option.bind E[n2]? fun y3=>
    Option.bind (wB ((x0.1.2.1,x0.1.2.2.1),y3)) fun r4=>
    Option.bind (bif r4.1.2.2 then
     some (x0.1.1,r4.1.1,r4.1.2.1,x0.1.2.2.2)
     else some x0.1:ah ((Int × Int × aa (Int × Int × Int × Bool) × Int × Bool × aa (Int × Int) × aa (Int)))) fun x5=>
    Option.bind (bif x0.2.1 then
     some r4.1.2.2
     else some false:ah (Bool)) fun x6=>
    some (x5,x6):ah ((Int × Int × aa (Int × Int × Int × Bool) × Int × Bool × aa (Int × Int) × aa (Int)) × Bool)) fun x7=>
   self1 (x7.1,x7.2,IntKind.wrap .i64 (x0.2.2+(1:Int)))
  else some (x0.1,x0.2.1)) (((x0,n,L,y),true,(0:Int)):(Int × Int × aa aD × An) × Bool × Int)=some ((x0,(E.foldl jA ((n,L),true)).1.1,(E.foldl jA ((n,L),true)).1.2,y),(E.foldl jA ((n,L),true)).2):=by
  refine kI (fun (x:(Int × Int × aa aD × An) × Bool × Int)=>∃i:Nat,i<=E.length/\x=((x0,((E.take i).foldl jA ((n,L),true)).1.1,((E.take i).foldl jA ((n,L),true)).1.2,y),((E.take i).foldl jA ((n,L),true)).2,(i:Int))) (fun x=>E.length-x.2.2.toNat) (fun _=>_) (fun self x ⟨i,h1,h2⟩ hs => ?_) (n:=BIG) (x:=_) (by simp [BIG];omega) ⟨0,by omega,rfl⟩;subst h2;simp only;by_cases hi:i<E.length
  ·have l1:=SY (E.take i) ((n,L),true) hL;have hn:=hs ((x0,((E.take (i+1)).foldl jA ((n,L),true)).1.1,((E.take (i+1)).foldl jA ((n,L),true)).1.2,y),((E.take (i+1)).foldl jA ((n,L),true)).2,((i+1:Nat):Int)) ⟨i+1,hi,rfl⟩ (by simp;omega);rw [He _ _ hi] at hn;obtain ⟨t1,_,t3⟩:=arn E[i] l1;generalize (E.take i).foldl jA ((n,L),true)=s at l1 hn t1 t3;obtain ⟨⟨a,M⟩,al⟩:=s;simp only at l1 t1 t3;unfold jA at hn;simp only [show ((i:Int)<(E.length:Int)) from by omega,decide_true,ai];rw [aH hi,aT hi,ae,bV (by omega),t1,ae];simp only at hn ⊢;cases aV:(WA (a,M) E[i]).2.2 with
   | true=>
    rw [aV] at hn;simp only [if_true,wL] at hn;cases al<;>exact hn
   | false=>
    rw [aV] at hn;simp only [iP,if_false,Bool.and_false] at hn;cases al<;>exact hn
  ·simp only [show ¬((i:Int)<(E.length:Int)) from by omega,decide_false,ax];have:i=E.length:=by omega
   subst this;rw [nN]
 rw [this,ae]
theorem afI (num:Int) (E:aa Ed) (hE:E.length<=1000000):aK BIG (fun self7 x6=>
   bif decide (x6.2.2<(E.length:Int)) then
    Option.bind (bnd E.length x6.2.2 fun n8=>
     Option.bind E[n8]? fun y9=>
     Option.bind (Bi (x6.1,y9)) fun r10=>
     Option.bind (bif r10.1.2.2 then
      some (r10.1.1,r10.1.2.1)
      else some x6.1:ah ((Int × aa (Int × Int × Int × Bool)))) fun x11=>
     Option.bind (bif x6.2.1.2.1 then
      some (x6.2.1.1,r10.1.2.2,x6.2.1.2.2)
      else some (x6.2.1.1,false,x6.2.1.2.2):ah ((Int × Bool × aa (Int × Int) × aa (Int)))) fun x12=>
     some (x11,x12):ah ((Int × aa (Int × Int × Int × Bool)) × (Int × Bool × aa (Int × Int) × aa (Int)))) fun x13=>
    self7 (x13.1,x13.2,IntKind.wrap .i64 (x6.2.2+(1:Int)))
   else some (x6.1,x6.2.1)) (((n,L),(num,true,[],[]),(0:Int)):Wb × An × Int)=some ((E.foldl jA ((n,L),true)).1,(num,(E.foldl jA ((n,L),true)).2,[],[])):=by
 have hm:maxLen=9223372036854775807:=by decide
 refine kI (fun (x:Wb × An × Int)=>∃i:Nat,i<=E.length/\x=(((E.take i).foldl jA ((n,L),true)).1,(num,((E.take i).foldl jA ((n,L),true)).2,[],[]),(i:Int))) (fun x=>E.length-x.2.2.toNat) (fun _=>_) (fun self x ⟨i,h1,h2⟩ hs => ?_) (n:=BIG) (x:=_) (by simp [BIG];omega) ⟨0,by omega,rfl⟩;subst h2;simp only;by_cases hi:i<E.length
 ·have l1:=SY (E.take i) ((n,L),true) hL;have hn:=hs (((E.take (i+1)).foldl jA ((n,L),true)).1,(num,((E.take (i+1)).foldl jA ((n,L),true)).2,[],[]),((i+1:Nat):Int)) ⟨i+1,hi,rfl⟩ (by simp;omega);rw [He _ _ hi] at hn;obtain ⟨_,t1,t3⟩:=arn E[i] l1;generalize (E.take i).foldl jA ((n,L),true)=s at l1 hn t1 t3;obtain ⟨W,al⟩:=s;simp only at l1 t1 t3;unfold jA at hn;simp only [show ((i:Int)<(E.length:Int)) from by omega,decide_true,ai];rw [aH hi,aT hi,ae,bV (by omega),t1,ae];simp only at hn ⊢;cases aV:(WA W E[i]).2.2 with
  | true=>
   rw [aV] at hn;simp only [if_true,wL] at hn;cases al<;>exact hn
  | false=>
   rw [aV] at hn;simp only [iP,if_false,Bool.and_false] at hn;cases al<;>exact hn
 ·simp only [show ¬((i:Int)<(E.length:Int)) from by omega,decide_false,ax];have:i=E.length:=by omega
  subst this;rw [nN]
end
theorem aB4 (x0 n : Int) (L : aa aD) (y : An) (o : Bn) (hL : L.length ≤ 1048576) (h1 : y.2.2.1.length ≤ 1048576) (h2 : y.2.2.2.length ≤ 1048576) (ho : o.2.2.1.length ≤ 1048576) :
    ∃ (a b : Int) (M : aa aD) (z z' : An) (e : Int), oZ ((x0, n, L, y), o) = some ((a, b, M, z.1, z.2.1, z.2.2.1, z.2.2.2, z'.1, z'.2.1, z'.2.2.1, z'.2.2.2, e), ()) ∧ nK ((x0, n, L, y), o) = some ((a, b, M, z.1, z.2.1, z.2.2.1, z.2.2.2, z'.1, z'.2.1, z'.2.2.1, z'.2.2.2, e), ()) ∧ M.length ≤ 1048576 ∧ (z.2.2.1.length ≤ 1048576 ∧ z.2.2.2.length ≤ 1048576) ∧ (z'.2.2.1.length ≤ 1048576 ∧ z'.2.2.2.length ≤ 1048576) := by
  obtain ⟨b, b1, b2, b3⟩ := afF x0 n L y hL h1 h2;have hO1 := MB n o ho;have hO2 := Mx n o ho;have rej : ∀ p q : ah ((Int × Int × aa aD × Int × Bool × aa Ed × aa Int × Int × Bool × aa Ed × aa Int × Int) × Unit), p = some (((0 : Int), (0 : Int), [], (0 : Int), false, [], [], (0 : Int), false, [], [], (1 : Int)), ()) → q = some (((0 : Int), (0 : Int), [], (0 : Int), false, [], [], (0 : Int), false, [], [], (1 : Int)), ()) → ∃ (a b : Int) (M : aa aD) (z z' : An) (e : Int), p = some ((a, b, M, z.1, z.2.1, z.2.2.1, z.2.2.2, z'.1, z'.2.1, z'.2.2.1, z'.2.2.2, e), ()) ∧ q = some ((a, b, M, z.1, z.2.1, z.2.2.1, z.2.2.2, z'.1, z'.2.1, z'.2.2.1, z'.2.2.2, e), ()) ∧ M.length ≤ 1048576 ∧ (z.2.2.1.length ≤ 1048576 ∧ z.2.2.2.length ≤ 1048576) ∧ (z'.2.2.1.length ≤ 1048576 ∧ z'.2.2.2.length ≤ 1048576) := fun p q h h' => ⟨0, 0, [], (0, false, [], []), (0, false, [], []), 1, h, h', by simp, by simp, by simp⟩
  show ∃ (a b : Int) (M : aa aD) (z z' : An) (e : Int), SC BIG _ = _ ∧ Sz BIG _ = _ ∧ _;rw [an9, anL, b1, b2, ae, ae];cases b with
  | false => exact rej _ _ rfl rfl
  | true =>
    obtain ⟨c1, c2, c3, c4⟩ := b3.1 rfl;have RB := (kr c3.gr).2.2;have hgl : (gE L).length = L.length := by unfold gE; rw [dY]
    simp only [bC, ax, hO1, hO2, ae];cases hob : qb n o with
    | false => exact rej _ _ rfl rfl
    | true =>
      simp only [bC, ax];by_cases hn : o.1 = y.1
      · rw [ak hn, ym x0 n L y hL h1 h2, yn x0 n L y hL h1 h2, qo y h1 h2, ni y h1 h2]
        exact ⟨x0, n, L, y, y, 0, rfl, rfl, hL, ⟨h1, h2⟩, h1, h2⟩
      · rw [aA hn]
        simp only [ib, ai, ae, ax]
        by_cases hw : o.1 = IntKind.wrap .i64 (y.1 + 1)
        case neg =>
          rw [aA hw];exact rej _ _ rfl rfl
        rw [ak hw]
        simp only [bC, ax]
        rw [ym x0 n L y hL h1 h2, ae]
        simp only
        -- what follows every change
        have tail : ∀ (a : Int) (M : aa aD) (ok : Bool) (es : aa Ed) (p q : ah ((Int × Int × aa aD × An) × An)) , p = some ((x0, a, M, y), (o.1, ok, es, [])) → ∀ q : ah ((Int × aa aD) × An), q = some ((a, M), (o.1, ok, es, [])) → M.length ≤ 1000000 → es.length ≤ 1000000 →
            ∃ (a b : Int) (M : aa aD) (z z' : An) (e : Int), (Option.bind p fun x11 =>
  Option.bind (mY (x11.1.2.1, x11.1.2.2.1)) fun r12 =>
  Option.bind (lL (x11.2.1, x11.2.2.1, x11.2.2.2.1, r12.1)) fun r13 =>
  some ((x11.1.1, x11.1.2.1, x11.1.2.2.1, r13.1.1, r13.1.2.1, r13.1.2.2.1, r13.1.2.2.2, x11.2.1, x11.2.2.1, x11.2.2.2.1, r12.1, (0 : Int)), ())) = some ((a, b, M, z.1, z.2.1, z.2.2.1, z.2.2.2, z'.1, z'.2.1, z'.2.2.1, z'.2.2.2, e), ()) ∧ (Option.bind q fun x32 =>
  Option.bind (mX x32.1) fun r33 =>
  Option.bind (p8 (x0, x32.1.1, x32.1.2, x32.2.1, x32.2.2.1, x32.2.2.2.1, r33.1)) fun r34 =>
  Option.bind (jD (x32.2.1, x32.2.2.1, x32.2.2.2.1, r33.1)) fun r35 =>
  some ((r34.1.1, r34.1.2.1, r34.1.2.2.1, r34.1.2.2.2.1, r34.1.2.2.2.2.1, r34.1.2.2.2.2.2.1, r34.1.2.2.2.2.2.2, r35.1.1, r35.1.2.1, r35.1.2.2.1, r35.1.2.2.2, (0 : Int)), ())) = some ((a, b, M, z.1, z.2.1, z.2.2.1, z.2.2.2, z'.1, z'.2.1, z'.2.2.1, z'.2.2.2, e), ()) ∧ M.length ≤ 1048576 ∧ (z.2.2.1.length ≤ 1048576 ∧ z.2.2.2.length ≤ 1048576) ∧ (z'.2.2.1.length ≤ 1048576 ∧ z'.2.2.2.length ≤ 1048576) := by
          intro a M ok es p _ hp q hq hM qB;obtain ⟨V, v1, v2, v3⟩ := awW a M (by omega);have i1 := qo (o.1, ok, es, V) (by simp only; omega) (by simp only; omega);have i2 := yn x0 a M (o.1, ok, es, V) (by omega) (by simp only; omega) (by simp only; omega);have i3 := ni (o.1, ok, es, V) (by simp only; omega) (by simp only; omega);subst hp hq;simp only [ae, v1, v2, i1, i2, i3];exact ⟨x0, a, M, (o.1, ok, es, V), (o.1, ok, es, V), 0, rfl, rfl, by omega, ⟨by simp only; omega, by simp only; omega⟩, by simp only; omega, by simp only; omega⟩
        -- what the order says
        have XQ := hob
        unfold qb at XQ
        simp only [aU] at XQ
        obtain ⟨_, _, d3, d4, d5⟩ := XQ
        have d3' := aW.1 d3
        have hol := j_ d4
        by_cases c2' : o.2.1 = 2
        · rw [if_neg (by omega), if_neg (by omega)] at d5
          simp only [aU, decide_eq_true_eq] at d5
          obtain ⟨e, he⟩ := List.length_eq_one_iff.1 d5.1
          obtain ⟨t1, t2, t3⟩ := abx (W := (n, L)) e (by simp only; omega)
          rw [ak c2', aA (show ¬ o.2.1 = 1 from by omega), aA (show ¬ o.2.1 = 4 from by omega), he]
          cases hk : (WT (n, L) e).2.2.2.2.2 with
          | true =>
            refine tail (WT (n, L) e).1 (WT (n, L) e).2.1 true [] _ none ?_ _ ?_ (by omega) (by simp)
            · show (Option.bind (jX ((n, L), e)) _) = _
              rw [t1, ae, hk]
              rfl
            · show (Option.bind (kS ((n, L), e)) _) = _
              rw [t2, ae, hk]
              rfl
          | false =>
            refine tail n L false [] _ none ?_ _ ?_ (by omega) (by simp)
            · show (Option.bind (jX ((n, L), e)) _) = _
              rw [t1, ae, hk]
              rfl
            · show (Option.bind (kS ((n, L), e)) _) = _
              rw [t2, ae, hk]
              rfl
        · by_cases c3' : o.2.1 = 3
          · rw [aA c2', ak c3', aA (show ¬ o.2.1 = 1 from by omega), aA (show ¬ o.2.1 = 4 from by omega)]
            have r1 := afH x0 n L y (by omega) o.2.2.2
            have r2 := aby n L (by omega) o.2.2.2 o.1 (gE L) (by omega)
            obtain ⟨l1, l2⟩ := Ke o.2.2.2 (gE L) ((n, L), []) (by simp only; omega)
            simp only [bS] at l2
            refine tail ((gE L).foldl (iW o.2.2.2) ((n, L), [])).1.1 ((gE L).foldl (iW o.2.2.2) ((n, L), [])).1.2 true ((gE L).foldl (iW o.2.2.2) ((n, L), [])).2 _ none ?_ _ ?_ l1 (by omega)
            · rw [ax, ai, r1]
              rfl
            · rw [ax, ae, ax, ax, ai, yc n L (by omega), ae]
              exact r2
          · rw [aA c2', aA c3']
            have r1 := aj5 x0 n L y (by omega) o.2.2.1 (by omega)
            have r2 := afI n L (by omega) o.1 o.2.2.1 (by omega)
            have l1 := SY o.2.2.1 ((n, L), true) (by simp only; omega)
            have hc : (bif decide (o.2.1 = (1 : Int)) then some true else some (decide (o.2.1 = (4 : Int))) : ah Bool) = some true := by
              by_cases h : o.2.1 = 1
              · rw [ak h]; rfl
              · rw [aA h, ak (show o.2.1 = 4 from by omega)]; rfl
            refine tail (o.2.2.1.foldl jA ((n, L), true)).1.1 (o.2.2.1.foldl jA ((n, L), true)).1.2 (o.2.2.1.foldl jA ((n, L), true)).2 [] _ none ?_ _ ?_ l1 (by simp)
            · rw [ax, ax, r1]
              rfl
            · rw [hc, ae, ai]
              exact r2
end Go.Fw
