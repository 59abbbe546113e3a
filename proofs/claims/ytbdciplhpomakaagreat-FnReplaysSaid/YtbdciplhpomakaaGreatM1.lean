/- What the given functions come to. No conditions. -/
import Derived.Test.YtbdciplhpomakaaGreatM0
set_option linter.unusedSectionVars false
namespace Go.Fw
structure Fo (n:Nat) (es:List Ed) (pa:Int->Int->Prop) (rk:Int->Nat):Prop where
 rg:∀{a b},pa a b->(0<=a/\a<n)/\(0<=b/\b<n)
 ad:∀u v,((if v<u then (v,u) else (u,v))∈es)↔(pa u v\/pa v u)
 un:∀{a a' b},pa a b->pa a' b->a=a'
 up:∀{a b},pa a b->rk a<rk b
section
variable {n:Nat} {es:aa Ed} {pa:Int->Int->Prop} {rk:Int->Nat} (F:Fo n es pa rk)
include F
def Nb (pa:Int->Int->Prop) (v fr u:Int):Prop:=u≠fr/\(pa u v\/pa v u)
omit F in
theorem aqN {l:aa Bool} {i j:Nat} (hi:i<l.length):(l.set i true).getD j false=true↔l.getD j false=true\/j=i:=by
 by_cases h:i=j
 ·subst h;rw [gD (Xz hi)];simp
 ·simp only [dw,List.getElem?_set_ne h];constructor
  ·exact .inl
  ·rintro (h'|h')
   ·exact h'
   ·exact absurd h'.symm h
end
structure HdS (h:Hd):Prop where
 a:h.2.1.length<=12
 b:h.2.2.1.length<=132
 c:h.2.2.2.1.length<=3/\∀y,y∈h.2.2.2.1->y.length<=12
 d:h.2.2.2.2.1.length<=3
 e:h.2.2.2.2.2.2.2.2.2.2.2.2.1.length<=132
 f:h.2.2.2.2.2.2.2.2.2.2.2.2.2.2.length<=81
def zH:Hd:=(0,[],[],[],[],0,0,0,0,0,0,0,[],0,[])
noncomputable def tkU (h:Hd) (i op a b:Int):Nk:=Vu h.1 h.2.1 h.2.2.1 h.2.2.2.1 h.2.2.2.2.1 h.2.2.2.2.2.1 h.2.2.2.2.2.2.1 h.2.2.2.2.2.2.2.1 h.2.2.2.2.2.2.2.2.1 h.2.2.2.2.2.2.2.2.2.1 h.2.2.2.2.2.2.2.2.2.2.1 h.2.2.2.2.2.2.2.2.2.2.2.1 h.2.2.2.2.2.2.2.2.2.2.2.2.1 h.2.2.2.2.2.2.2.2.2.2.2.2.2.1 h.2.2.2.2.2.2.2.2.2.2.2.2.2.2 i op a b
noncomputable def heU (h:Hd) (sh:Int) (y:An):Nk:=Vv h.1 h.2.1 h.2.2.1 h.2.2.2.1 h.2.2.2.2.1 h.2.2.2.2.2.1 h.2.2.2.2.2.2.1 h.2.2.2.2.2.2.2.1 h.2.2.2.2.2.2.2.2.1 h.2.2.2.2.2.2.2.2.2.1 h.2.2.2.2.2.2.2.2.2.2.1 h.2.2.2.2.2.2.2.2.2.2.2.1 h.2.2.2.2.2.2.2.2.2.2.2.2.1 h.2.2.2.2.2.2.2.2.2.2.2.2.2.1 h.2.2.2.2.2.2.2.2.2.2.2.2.2.2 sh y
noncomputable def Bj (h:Hd) (y:Rc):Int × Hd:=
 if y.1=1 then GI (tkU h y.2.1 y.2.2.1 y.2.2.2.1 y.2.2.2.2.1)
 else if y.1=2 then GI (heU h y.2.2.2.2.2.1 (y.2.2.2.2.2.2.1,y.2.2.2.2.2.2.2.1,y.2.2.2.2.2.2.2.2.1,y.2.2.2.2.2.2.2.2.2.1)) else (0,h)
noncomputable def qb (h:Hd) (y:Rc):ah Hd:=if (Bj h y).1=0 then none else some (Bj h y).2
def fl (h:Hd) (b:Bool):Int × aa Int × aa (Int × Int) × aa (aa Int) × aa Int × Int × Int × Int × Int × Int × Int × Int × aa (Int × Int) × Int × aa (Int × Int × Int × Int × Int × Int) × Bool:=(h.1,h.2.1,h.2.2.1,h.2.2.2.1,h.2.2.2.2.1,h.2.2.2.2.2.1,h.2.2.2.2.2.2.1,h.2.2.2.2.2.2.2.1,h.2.2.2.2.2.2.2.2.1,h.2.2.2.2.2.2.2.2.2.1,h.2.2.2.2.2.2.2.2.2.2.1,h.2.2.2.2.2.2.2.2.2.2.2.1,h.2.2.2.2.2.2.2.2.2.2.2.2.1,h.2.2.2.2.2.2.2.2.2.2.2.2.2.1,h.2.2.2.2.2.2.2.2.2.2.2.2.2.2,b)
noncomputable def Nl (n k:Int) (rs:aa Rc):ah Hd:=if (aW n 1 12&&aW k 1 3)=true then fM qb (hdN n.toNat k.toNat) rs else none
noncomputable def hfF (n k:Int) (rs:aa Rc):Int × aa Int × aa (Int × Int) × aa (aa Int) × aa Int × Int × Int × Int × Int × Int × Int × Int × aa (Int × Int) × Int × aa (Int × Int × Int × Int × Int × Int) × Bool:=match Nl n k rs with
 | some h=>fl h true
 | none=>fl zH false
theorem aBw {n:Int} {l:aa Int} (h:sj n l=true):(l.length:Int)=n:=by
 unfold sj at h;split at h
 ·assumption
 ·cases h
theorem HdF.rows {x0:Int} {x1:aa Int} {x2:aa Ed} {x3:aa (aa Int)} {x4:aa Int} {x14:aa Sd} (h:HdF x0 x1 x2 x3 x4 x14):∀y,y∈x3->y.length<=12:=by
 intro y hy;obtain ⟨i,hi,rfl⟩:=zW hy;have h1:=(h.o3 i hi).1;rw [gD (aR hi)] at h1;have:=aBw h1;have:=h.n;omega
theorem aun (n k:Int) (h:(aW n 1 12&&aW k 1 3)=true):HdS (hdN n.toNat k.toNat):=by
 rw [aU,aV,aV] at h;refine ⟨by show (IZ _ _).length<=12;rw [ajy];omega,by show ([]:aa Ed).length<=132;simp,⟨by show (List.replicate _ _).length<=3;rw [zO];omega,fun y hy => ?_⟩,by show (List.replicate _ _).length<=3;rw [zO];omega,by show ([]:aa Ed).length<=132;simp,by show ([]:aa Sd).length<=81;simp⟩;have ql:y∈List.replicate k.toNat (pU n.toNat):=hy;rw [List.mem_replicate] at ql;rw [ql.2];simp only [pU,dX,sJ];omega
theorem auo {h h':Hd} {y:Rc} (hs:HdS h) (e:qb h y=some h'):HdS h':=by
 obtain ⟨x0,x1,x2,x3,x4,x5,x6,x7,x8,x9,x10,x11,x12,x13,x14⟩:=h;unfold qb at e;split at e;case isTrue=>cases e
 case isFalse aX=>
 cases e;unfold Bj at aX ⊢;split;case isTrue h1=>
  rw [if_pos h1] at aX;unfold tkU Vu at aX ⊢;split;case isFalse eD=>rw [if_neg eD] at aX;exact absurd rfl aX
  case isTrue aT=>
  obtain ⟨hF,_⟩:=Sb aT;have jX:=jV hF.cuts;have tX:=hF.said;have hn:=hF.n;have ho:=hF.own;have hk:=hF.k;have hnu:=hF.nums;obtain ⟨c,t1,t2,t3,t4,t5,t6,t7,t8,t9,s,m,er,l1,l2,l3⟩:=azF x0 x1 x2 x3 x4 x14 y.2.1 y.2.2.1 y.2.2.2.1 y.2.2.2.2.1;rw [er];exact ⟨by show x1.length<=12;simp only at ho hn;omega,by show c.length<=132;simp only at jX;omega,⟨by show x3.length<=3;exact hk.2,hF.rows⟩,by show x4.length<=3;simp only at hnu hk;omega,by show t8.length<=132;omega,by show s.length<=81;simp only at tX;omega⟩
 case isFalse h1=>
 rw [if_neg h1] at aX;split;case isFalse h2=>rw [if_neg h2] at aX;exact absurd rfl aX
 case isTrue h2=>
 rw [if_pos h2] at aX;unfold heU Vv at aX ⊢;split;case isFalse eD=>rw [if_neg eD] at aX;exact absurd rfl aX
 case isTrue aT=>
 obtain ⟨hF,hA,yg,om,hr⟩:=acC aT;obtain ⟨a1,a2,a3,a4,a5,a6,a7⟩:=acy hA;have jX:=jV hF.cuts;have Ce:=jV a5;have tX:=hF.said;have hn:=hF.n;have ho:=hF.own;have hk:=hF.k;have hnu:=hF.nums;simp only at jX Ce tX hn ho hk hnu a6;obtain ⟨w,c,t1,t2,t3,t4,t5,t6,t7,t8,t9,s,m,er,l1,l2,l3,l4⟩:=azI (x0:=x0) (x1:=x1) (x2:=x2) (x3:=x3.set (y.2.2.2.2.2.1-1).toNat y.2.2.2.2.2.2.2.2.2.1) (x4:=x4.set (y.2.2.2.2.2.1-1).toNat y.2.2.2.2.2.2.1) (x14:=x14) x5 x6 x7 x8 y.2.2.2.2.2.2.2.2.1 x11 y.2.2.2.2.2.2.2.1 (by omega) (by omega) (by omega) (by omega);simp only;rw [er];refine ⟨l1,l2,⟨by show (x3.set _ _).length<=3;rw [lL];exact hk.2,fun z hz => ?_⟩,by show (x4.set _ _).length<=3;rw [lL];omega,l3,l4⟩;rcases List.mem_or_eq_of_mem_set hz with hz|rfl
 ·exact hF.rows z hz
 ·omega
theorem HdS.bd {h:Hd} (hs:HdS h):h.2.1.length<=1048576/\h.2.2.1.length<=1048576/\(h.2.2.2.1.length<=1048576/\∀y,y∈h.2.2.2.1->y.length<=1048576)/\h.2.2.2.2.1.length<=1048576/\h.2.2.2.2.2.2.2.2.2.2.2.2.1.length<=1048576/\h.2.2.2.2.2.2.2.2.2.2.2.2.2.2.length<=1048576:=by
 obtain ⟨a,b,c,d,e,f⟩:=hs;exact ⟨by omega,by omega,⟨by omega,fun y hy=>by have:=c.2 y hy;omega⟩,by omega,by omega,by omega⟩
theorem azL {h:Hd} (hs:HdS h) (i op a b:Int):Dc (h,(i,op,a,b))=some (tkU h i op a b,()):=by
 obtain ⟨b1,b2,b3,b4,b5,b6⟩:=hs.bd;exact azD _ _ _ _ _ _ _ _ _ _ _ _ _ _ _ i op a b b1 b2 b3 b4 b5 b6
theorem anV {h:Hd} (hs:HdS h) (i op a b:Int):Db (h,(i,op,a,b))=some (tkU h i op a b,()):=by
 obtain ⟨b1,b2,b3,b4,b5,b6⟩:=hs.bd;exact azE _ _ _ _ _ _ _ _ _ _ _ _ _ _ _ i op a b b1 b2 b3 b4 b5 b6
theorem azM {h:Hd} (hs:HdS h) (sh:Int) (y:An) (h2:y.2.2.1.length<=1048576) (h3:y.2.2.2.length<=1048576):De (h,sh,y)=some (heU h sh y,()):=by
 obtain ⟨b1,b2,b3,b4,b5,b6⟩:=hs.bd;exact azJ _ _ _ _ _ _ _ _ _ _ _ _ _ _ _ sh _ _ _ _ b1 b2 b3 b4 b5 b6 h2 h3
theorem anW {h:Hd} (hs:HdS h) (sh:Int) (y:An) (h2:y.2.2.1.length<=1048576) (h3:y.2.2.2.length<=1048576):zm (h,sh,y)=some (heU h sh y,()):=by
 obtain ⟨b1,b2,b3,b4,b5,b6⟩:=hs.bd;exact azK _ _ _ _ _ _ _ _ _ _ _ _ _ _ _ sh _ _ _ _ b1 b2 b3 b4 b5 b6 h2 h3
def RcS (rs:aa Rc):Prop:=rs.length<=1048576/\∀y,y∈rs->y.2.2.2.2.2.2.2.2.1.length<=1048576/\y.2.2.2.2.2.2.2.2.2.1.length<=1048576
theorem Vx (n k : Int) (rs : aa Rc) (hz : RcS rs) : Al (n, k, rs) = some (hfF n k rs, ()) := by
  have hm : maxLen = 9223372036854775807 := by decide
  show IC BIG _ = _;rw [alr];obtain ⟨r, hr, h1, _⟩ := aaY n k;rw [h1, af];unfold hfF Nl;cases hc : (aW n 1 12 && aW k 1 3) with
  | false =>
    rw [hc] at hr;simp only [iK, if_false] at hr ⊢;subst hr;rfl
  | true =>
    rw [hc] at hr;simp only [if_true] at hr ⊢;subst hr;have hL := ax2 (B := Hd × Bool) (F := fun self2 (x1 : Hd × Hd × Int) =>
      bif decide (x1.2.2 < (rs.length : Int)) then
       Option.bind (bnd rs.length x1.2.2 fun n3 =>
        Option.bind rs[n3]? fun y =>
        Option.bind (bif decide (y.1 = (1 : Int)) then
        Option.bind (Dc (x1.2.1, (y.2.1, y.2.2.1, y.2.2.2.1, y.2.2.2.2.1))) fun r5 =>
        some ((r5.1.1, r5.1.2.1, r5.1.2.2.1, r5.1.2.2.2.1, r5.1.2.2.2.2.1, r5.1.2.2.2.2.2.1, r5.1.2.2.2.2.2.2.1, r5.1.2.2.2.2.2.2.2.1, r5.1.2.2.2.2.2.2.2.2.1, r5.1.2.2.2.2.2.2.2.2.2.1, r5.1.2.2.2.2.2.2.2.2.2.2.1, r5.1.2.2.2.2.2.2.2.2.2.2.2.1, r5.1.2.2.2.2.2.2.2.2.2.2.2.2.1, r5.1.2.2.2.2.2.2.2.2.2.2.2.2.2.1, r5.1.2.2.2.2.2.2.2.2.2.2.2.2.2.2.1), r5.1.2.2.2.2.2.2.2.2.2.2.2.2.2.2.2)
       else bif decide (y.1 = (2 : Int)) then
        Option.bind (De (x1.2.1, y.2.2.2.2.2.1, (y.2.2.2.2.2.2.1, y.2.2.2.2.2.2.2.1, y.2.2.2.2.2.2.2.2.1, y.2.2.2.2.2.2.2.2.2.1))) fun r6 =>
        some ((r6.1.1, r6.1.2.1, r6.1.2.2.1, r6.1.2.2.2.1, r6.1.2.2.2.2.1, r6.1.2.2.2.2.2.1, r6.1.2.2.2.2.2.2.1, r6.1.2.2.2.2.2.2.2.1, r6.1.2.2.2.2.2.2.2.2.1, r6.1.2.2.2.2.2.2.2.2.2.1, r6.1.2.2.2.2.2.2.2.2.2.2.1, r6.1.2.2.2.2.2.2.2.2.2.2.2.1, r6.1.2.2.2.2.2.2.2.2.2.2.2.2.1, r6.1.2.2.2.2.2.2.2.2.2.2.2.2.2.1, r6.1.2.2.2.2.2.2.2.2.2.2.2.2.2.2.1), r6.1.2.2.2.2.2.2.2.2.2.2.2.2.2.2.2)
       else some (x1.2.1, (0 : Int)) : ah (Hd × Int)) fun x7 =>
        bif decide (x7.2 = (0 : Int)) then
         some (Sum.inr (zH, false))
        else some (Sum.inl (x1.1, x7.1)) : ah ((Hd × Hd) ⊕ (Hd × Bool))) fun y => match y with
       | .inl x8 =>
        self2 (x8.1, x8.2, IntKind.wrap .i64 (x1.2.2 + (1 : Int)))
       | .inr x8 =>
        some (Sum.inr (x8.1, x8.2))
      else some (Sum.inl (x1.1, x1.2.1))) rs (by have := hz.1; omega) (mk := fun (s : Hd) (j : Int) => ((zH, s, j) : Hd × Hd × Int)) (I := fun _ s => HdS s) (st := qb) (R := fun s => ((zH, s) : Hd × Hd)) (b := ((zH, false) : Hd × Bool)) (s0 := hdN n.toNat k.toNat) (aun n k hc) (fun i s s' y hy hs gP => auo hs gP) (fun self s i y hy hs => ?_) (fun self s hs => by simp)
    · refine (congrArg (fun o => Option.bind o _) hL).trans ?_
      cases fM qb (hdN n.toNat k.toNat) rs with
      | none => rfl
      | some h => rfl
    · have hi := (aZ hy).1
      have hyb := hz.2 y (eY hy)
      have bN := hz.1
      simp only [show ((i : Int) < (rs.length : Int)) from by omega, decide_true, ai]
      rw [aF hi, hy, af]
      have key : (bif decide (y.1 = (1 : Int)) then
        Option.bind (Dc (s, (y.2.1, y.2.2.1, y.2.2.2.1, y.2.2.2.2.1))) fun r5 =>
        some ((r5.1.1, r5.1.2.1, r5.1.2.2.1, r5.1.2.2.2.1, r5.1.2.2.2.2.1, r5.1.2.2.2.2.2.1, r5.1.2.2.2.2.2.2.1, r5.1.2.2.2.2.2.2.2.1, r5.1.2.2.2.2.2.2.2.2.1, r5.1.2.2.2.2.2.2.2.2.2.1, r5.1.2.2.2.2.2.2.2.2.2.2.1, r5.1.2.2.2.2.2.2.2.2.2.2.2.1, r5.1.2.2.2.2.2.2.2.2.2.2.2.2.1, r5.1.2.2.2.2.2.2.2.2.2.2.2.2.2.1, r5.1.2.2.2.2.2.2.2.2.2.2.2.2.2.2.1), r5.1.2.2.2.2.2.2.2.2.2.2.2.2.2.2.2)
       else bif decide (y.1 = (2 : Int)) then
        Option.bind (De (s, y.2.2.2.2.2.1, (y.2.2.2.2.2.2.1, y.2.2.2.2.2.2.2.1, y.2.2.2.2.2.2.2.2.1, y.2.2.2.2.2.2.2.2.2.1))) fun r6 =>
        some ((r6.1.1, r6.1.2.1, r6.1.2.2.1, r6.1.2.2.2.1, r6.1.2.2.2.2.1, r6.1.2.2.2.2.2.1, r6.1.2.2.2.2.2.2.1, r6.1.2.2.2.2.2.2.2.1, r6.1.2.2.2.2.2.2.2.2.1, r6.1.2.2.2.2.2.2.2.2.2.1, r6.1.2.2.2.2.2.2.2.2.2.2.1, r6.1.2.2.2.2.2.2.2.2.2.2.2.1, r6.1.2.2.2.2.2.2.2.2.2.2.2.2.1, r6.1.2.2.2.2.2.2.2.2.2.2.2.2.2.1, r6.1.2.2.2.2.2.2.2.2.2.2.2.2.2.2.1), r6.1.2.2.2.2.2.2.2.2.2.2.2.2.2.2.2)
       else some (s, (0 : Int)) : ah (Hd × Int)) = some ((Bj s y).2, (Bj s y).1) := by
        unfold Bj;by_cases c1 : y.1 = 1
        · rw [ak c1, ai, if_pos c1, azL hs, af]
          rfl
        · rw [az c1, ax, if_neg c1]
          by_cases c2 : y.1 = 2
          · rw [ak c2, ai, if_pos c2, azM hs _ _ hyb.1 hyb.2, af]
            rfl
          · rw [az c2, ax, if_neg c2]
      rw [key, af]
      unfold qb
      by_cases c0 : (Bj s y).1 = 0
      · simp only [ak c0, ai, if_pos c0, af]
      · simp only [az c0, ax, if_neg c0, af]
        rw [bT (by omega)]
theorem acD {S α:Type} (st:S->α->ah S):∀(a b:aa α) (s:S),fM st s (a++b)=(fM st s a).bind fun s'=>fM st s' b
 | [],b,s=>rfl
 | x::a,b,s=>by
  rw [mZ,fM,fM];cases st s x with
  | none=>rfl
  | some s'=>simp only [af,acD st a b]
theorem alW (n k : Int) (rs : aa Rc) (hz : RcS rs) : IG (n, k, rs) = some (hfF n k rs, ()) := by
  have hm : maxLen = 9223372036854775807 := by decide
  show IE BIG _ = _;rw [alu];obtain ⟨r, hr, _, h1⟩ := aaY n k;rw [h1, af];have akk : ∀ b : Hd × Bool, (b.2 = true → Nl n k rs = some b.1 ∧ HdS b.1) ∧ (b.2 = false → Nl n k rs = none) → (bif !b.2 then
   some (((0 : Int), [], [], [], [], (0 : Int), (0 : Int), (0 : Int), (0 : Int), (0 : Int), (0 : Int), (0 : Int), [], (0 : Int), [], false), ())
  else Option.bind (nV b.1) fun r17 => some (fl r17.1 true, ())) = some (hfF n k rs, ()) := by
    intro b ⟨VD, wB⟩;obtain ⟨h, ok⟩ := b;unfold hfF;cases ok with
    | false => rw [wB rfl]; rfl
    | true =>
      obtain ⟨e1, e2⟩ := VD rfl;obtain ⟨b1, b2, b3, b4, b5, b6⟩ := e2.bd;rw [e1];have hcp : nV h = some (h, ()) := CW _ _ _ _ _ _ _ _ _ _ _ _ _ _ _ b1 b2 b3 b4 b5 b6;simp only [bB, ax];rw [hcp];rfl
  refine dV (P := fun o => o = some (hfF n k rs, ())) (fun (x : Hd × Bool × Int) => ∃ i : Nat, x.2.2 = (i : Int) ∧ i ≤ rs.length ∧ ((x.2.1 = true ∧ HdS x.1 ∧ (aW n 1 12 && aW k 1 3) = true ∧ fM qb (hdN n.toNat k.toNat) (rs.take i) = some x.1) ∨ (x.2.1 = false ∧ Nl n k rs = none))) (fun x => rs.length - x.2.2.toNat) (fun _ (b : Hd × Bool) => (b.2 = true → Nl n k rs = some b.1 ∧ HdS b.1) ∧ (b.2 = false → Nl n k rs = none)) (by have := hz.1; simp [BIG]; omega) ⟨0, rfl, by omega, ?_⟩ (fun self x hx CZ => ?_) (fun b hb => akk b hb)
  · subst hr
    cases hc : (aW n 1 12 && aW k 1 3) with
    | true => exact .inl ⟨rfl, aun n k hc, rfl, rfl⟩
    | false =>
      refine .inr ⟨rfl, ?_⟩;unfold Nl;rw [hc]; rfl
  · obtain ⟨s, ok, j⟩ := x
    obtain ⟨i, g1, g2, g3⟩ := hx
    simp only at g1 g2 g3 CZ ⊢
    subst g1
    have bN := hz.1
    by_cases hi : i < rs.length
    · simp only [show ((i : Int) < (rs.length : Int)) from by omega, decide_true, ai, af]
      rcases g3 with ⟨rfl, hs, hc, hf⟩ | ⟨rfl, eD⟩
      · have hyb := hz.2 rs[i] (nH hi)
        have hy := aR hi
        have key : (bnd rs.length (i : Int) fun n4 =>
       Option.bind rs[n4]? fun y5 =>
       bif decide (y5.1 = (1 : Int)) then
        bnd rs.length (i : Int) fun n6 =>
        Option.bind rs[n6]? fun y7 =>
        Option.bind (Db (s, (y7.2.1, y7.2.2.1, y7.2.2.2.1, y7.2.2.2.2.1))) fun r8 =>
        some ((r8.1.1, r8.1.2.1, r8.1.2.2.1, r8.1.2.2.2.1, r8.1.2.2.2.2.1, r8.1.2.2.2.2.2.1, r8.1.2.2.2.2.2.2.1, r8.1.2.2.2.2.2.2.2.1, r8.1.2.2.2.2.2.2.2.2.1, r8.1.2.2.2.2.2.2.2.2.2.1, r8.1.2.2.2.2.2.2.2.2.2.2.1, r8.1.2.2.2.2.2.2.2.2.2.2.2.1, r8.1.2.2.2.2.2.2.2.2.2.2.2.2.1, r8.1.2.2.2.2.2.2.2.2.2.2.2.2.2.1, r8.1.2.2.2.2.2.2.2.2.2.2.2.2.2.2.1), r8.1.2.2.2.2.2.2.2.2.2.2.2.2.2.2.2)
       else bif decide (y5.1 = (2 : Int)) then
        bnd rs.length (i : Int) fun n9 =>
        Option.bind rs[n9]? fun y10 =>
        bnd rs.length (i : Int) fun n11 =>
        Option.bind rs[n11]? fun y12 =>
        Option.bind (zm (s, y10.2.2.2.2.2.1, (y12.2.2.2.2.2.2.1, y12.2.2.2.2.2.2.2.1, y12.2.2.2.2.2.2.2.2.1, y12.2.2.2.2.2.2.2.2.2.1))) fun r13 =>
        some ((r13.1.1, r13.1.2.1, r13.1.2.2.1, r13.1.2.2.2.1, r13.1.2.2.2.2.1, r13.1.2.2.2.2.2.1, r13.1.2.2.2.2.2.2.1, r13.1.2.2.2.2.2.2.2.1, r13.1.2.2.2.2.2.2.2.2.1, r13.1.2.2.2.2.2.2.2.2.2.1, r13.1.2.2.2.2.2.2.2.2.2.2.1, r13.1.2.2.2.2.2.2.2.2.2.2.2.1, r13.1.2.2.2.2.2.2.2.2.2.2.2.2.1, r13.1.2.2.2.2.2.2.2.2.2.2.2.2.2.1, r13.1.2.2.2.2.2.2.2.2.2.2.2.2.2.2.1), r13.1.2.2.2.2.2.2.2.2.2.2.2.2.2.2.2)
       else some (s, (0 : Int)) : ah (Hd × Int)) = some ((Bj s rs[i]).2, (Bj s rs[i]).1) := by
          have bi : ∀ {B : Type} {k : Nat → ah B}, bnd rs.length (i : Int) k = k i := fun {B k} => aF hi
          simp only [bi, hy, af];generalize rs[i] = y at hyb;unfold Bj;by_cases c1 : y.1 = 1
          · rw [ak c1, ai, if_pos c1, anV hs, af]
            rfl
          · rw [az c1, ax, if_neg c1]
            by_cases c2 : y.1 = 2
            · rw [ak c2, ai, if_pos c2, anW hs _ _ hyb.1 hyb.2, af]
              rfl
            · rw [az c2, ax, if_neg c2]
        have Nt : rs.take (i + 1) = rs.take i ++ [rs[i]] := rC hi
        simp only [ai]
        rw [key]
        simp only [af]
        rw [bT (by omega)]
        by_cases c0 : (Bj s rs[i]).1 = 0
        · rw [ak c0]
          refine CZ _ ⟨i + 1, rfl, hi, .inr ⟨rfl, ?_⟩⟩ (by simp; omega)
          unfold Nl
          rw [hc, if_pos rfl]
          have : rs = rs.take i ++ (rs[i] :: rs.drop (i + 1)) := by
            rw [← uU hi, Kb]
          rw [this, acD, hf, af, fM]
          unfold qb
          rw [if_pos c0]; rfl
        · rw [az c0]
          have gP : qb s rs[i] = some (Bj s rs[i]).2 := by unfold qb; rw [if_neg c0]
          refine CZ _ ⟨i + 1, rfl, hi, .inl ⟨rfl, auo hs gP, hc, ?_⟩⟩ (by simp; omega)
          rw [Nt, acD, hf, af, fM, gP]
          rfl
      · simp only [ax]
        exact ⟨_, rfl, (fun h => by cases h), fun _ => eD⟩
    · have Nv : i = rs.length := by omega
      subst Nv
      simp only [show ¬ ((rs.length : Int) < (rs.length : Int)) from by omega, decide_false, ax, af]
      refine ⟨_, rfl, ?_⟩
      rcases g3 with ⟨rfl, hs, hc, hf⟩ | ⟨rfl, eD⟩
      · rw [ow] at hf
        refine ⟨fun _ => ⟨?_, hs⟩, (fun h => by cases h)⟩
        unfold Nl
        rw [hc, if_pos rfl, hf]
      · exact ⟨(fun h => by cases h), fun _ => eD⟩
def FT.rts:FT->aa Int
 | .nil=>[]
 | .nd v c s=>v::s.rts
theorem acE (g:FT):∀f:FT,(f.app g).rts=f.rts++g.rts
 | .nil=>rfl
 | .nd v c s=>by
  have:=acE g s;simp [FT.app,FT.rts,this]
theorem aa8:∀(g:FT) {x:Int},x∈g.rts->x∈g.vs
 | .nil,x,h=>h
 | .nd v c s,x,h=>by
  simp only [FT.rts,aY] at h;simp only [FT.vs,aY,bG];rcases h with h|h
  ·exact .inl h
  ·exact .inr (.inr (aa8 s h))
def RtO (pa:Int->Int->Prop) (v fr:Int) (g:FT):Prop:=g.rts.Pairwise (· < ·)/\∀u,u∈g.rts↔Nb pa v fr u
def GF (pa:Int->Int->Prop):FT->Int->Prop
 | .nil,_=>True
 | .nd u c s,v=>(RtO pa u v c/\GF pa c u)/\GF pa s v
theorem auq {pa:Int->Int->Prop} {v:Int} {g:FT}:∀{f:FT},GF pa f v->GF pa g v->GF pa (f.app g) v
 | .nil,_,h=>h
 | .nd u c s,h,h'=>⟨h.1,auq h.2 h'⟩
def QF (pa:Int->Int->Prop) (v fr:Int) (i:Nat) (f:FT):Prop:=f.rts.Pairwise (· < ·)/\(∀u,u∈f.rts↔Nb pa v fr u/\u<i)/\GF pa f v
theorem azN {pa:Int->Int->Prop} {v fr:Int} {i:Nat} {f:FT} (h:QF pa v fr i f) (eD:¬Nb pa v fr i):QF pa v fr (i+1) f:=by
 refine ⟨h.1,fun u => ?_,h.2.2⟩;rw [h.2.1];constructor
 ·rintro ⟨h1,h2⟩;exact ⟨h1,by omega⟩
 ·rintro ⟨h1,h2⟩;refine ⟨h1,?_⟩;by_cases hu:u=(i:Int)
  ·subst hu;exact absurd h1 eD
  ·omega
theorem aBy {pa:Int->Int->Prop} {v fr:Int} {i:Nat} {f g:FT} (h:QF pa v fr i f) (ol:Nb pa v fr i) (hg:RtO pa i v g) (qm:GF pa g i):QF pa v fr (i+1) (f.app (.nd i g .nil)):=by
 refine ⟨?_,fun u => ?_,auq h.2.2 ⟨⟨hg,qm⟩,trivial⟩⟩
 ·rw [acE];simp only [FT.rts];rw [List.pairwise_append];refine ⟨h.1,by simp,fun a ha b hb => ?_⟩;rw [cK] at hb;subst hb;exact ((h.2.1 a).1 ha).2
 ·rw [acE,bG,h.2.1];simp only [FT.rts,cK];constructor
  ·rintro (⟨h1,h2⟩|rfl)
   ·exact ⟨h1,by omega⟩
   ·exact ⟨ol,by omega⟩
  ·rintro ⟨h1,h2⟩;by_cases hu:u=(i:Int)
   ·exact .inr hu
   ·exact .inl ⟨h1,by omega⟩
theorem CX {n:Nat} {e:Ed} (h:eF n e=true):0<=e.1/\e.1<e.2/\e.2<n:=by
 unfold eF at h;simp only [aU,aV,decide_eq_true_eq] at h;omega
theorem awr (n:Nat) (es:aa Ed) (h1:1<=n) (hn:n<=12) (qo:es.length<=1000) (hE:∀e,e∈es->eF n e=true) :
  ∃b,WV ((n:Int),es)=some (b,())/\(b=true↔∃i,∃hi:i<es.length,Con (es.take i) es[i].1 es[i].2):=by
 have hm:maxLen=9223372036854775807:=by decide
 show ∃b,WU BIG _=_/\_;rw [awh,Mh n (by omega),af];refine dV (P:=fun o=>∃b,o=some (b,())/\(b=true↔∃i,∃hi:i<es.length,Con (es.take i) es[i].1 es[i].2)) (fun (s:aa Int × Int)=>∃i:Nat,s.2=(i:Int)/\i<=es.length/\Lab n (es.take i) s.1/\∀k,k<i->∀hk:k<es.length,¬Con (es.take k) es[k].1 es[k].2) (fun s=>es.length-s.2.toNat) (fun _ (b:Unit ⊕ Bool)=>(b = .inl ()/\∀k (hk:k<es.length),¬Con (es.take k) es[k].1 es[k].2)\/(b = .inr true/\∃i,∃hi:i<es.length,Con (es.take i) es[i].1 es[i].2)) (by simp [BIG];omega) ⟨0,rfl,by omega,Lab.zero n,fun k hk=>by omega⟩ (fun self s hx hs => ?_) (fun b hb => ?_)
 ·obtain ⟨l,j⟩:=s;obtain ⟨i,h3,h4,h5,h6⟩:=hx;simp only at h3 h4 h5 h6 hs ⊢;subst h3;by_cases hi:i<es.length
  ·simp only [show ((i:Int)<(es.length:Int)) from by omega,decide_true,ai];have he:=CX (hE _ (nH hi));have hll:=h5.1;rw [aF hi,aR hi,af,Mi l es[i].1 es[i].2 he.1 (by omega) (by omega) (by omega) (by omega),af];have ME:=h5.iff (getD_at (show es[i].1.toNat<l.length by omega)) (getD_at (show es[i].2.toNat<l.length by omega));rw [jF he.1,jF (by omega:0<=es[i].2)] at ME;by_cases hq:l.getD es[i].1.toNat 0=l.getD es[i].2.toNat 0
   ·rw [ak hq];exact ⟨_,rfl,.inr ⟨rfl,i,hi,ME.1 hq⟩⟩
   ·rw [az hq];simp only [gW,bB,ax];rw [bT (by omega)];refine hs _ ⟨i+1,rfl,hi,?_,fun k hk nY => ?_⟩ (by simp;omega)
    ·rw [rC hi];exact h5.unE (e:=es[i]) ⟨he.1,by omega,by omega,he.2.2⟩
    ·by_cases G6:k=i
     ·subst G6;exact fun hc=>hq (ME.2 hc)
     ·exact h6 k (by omega) nY
  ·simp only [show ¬((i:Int)<(es.length:Int)) from by omega,decide_false,ax];exact ⟨_,rfl,.inl ⟨rfl,fun k hk=>h6 k (by omega) hk⟩⟩
 ·rcases hb with ⟨rfl,h⟩|⟨rfl,h⟩
  ·exact ⟨false,rfl,⟨(fun h=>by cases h),fun ⟨i,hi,hc⟩=>absurd hc (h i hi)⟩⟩
  ·exact ⟨true,rfl,⟨fun _=>h,fun _=>rfl⟩⟩
def FT.pr:FT->Int->aa (Int × Int)
 | .nil,_=>[]
 | .nd w c s,r=>(r,w)::(c.pr w++s.pr r)
theorem Xh:∀(f:FT) (r:Int) (S:Int->Prop),S r->(∀a b,(a,b)∈f.pr r->S a->S b)->∀x,x∈f.vs->S x
 | .nil,_,_,_,_,x,h=>by cases h
 | .nd w c s,r,S,hr,hs,x,h=>by
  have hw:S w:=hs r w (dW ..) hr;simp only [FT.vs,aY,bG] at h;rcases h with rfl|h|h
  ·exact hw
  ·exact Xh c w S hw (fun a b d9=>hs a b (dQ _ (jl _ d9))) x h
  ·exact Xh s r S hr (fun a b d9=>hs a b (dQ _ (jD _ d9))) x h
theorem mi {α:Type} [DecidableEq α]:∀(l1 l2:aa α),l1.Nodup->(∀x,x∈l1->x∈l2)->l1.length<=l2.length
 | [],l2,_,_=>by simp
 | x::l1,l2,hn,h=>by
  rw [nJ] at hn;have hx:=h x (dW ..);have:=mi l1 (l2.erase x) hn.2 fun y hy=>(List.mem_erase_of_ne (by rintro rfl;exact hn.1 hy)).2 (h y (dQ _ hy))
  rw [List.length_erase_of_mem hx] at this;have:=List.length_pos_of_mem hx;simp only [bF];omega
theorem Xi {α β:Type} (f:α->β):∀(l:aa α),l.Nodup->(∀x,x∈l->∀y,y∈l->f x=f y->x=y)->(l.map f).Nodup
 | [],_,_=>by simp
 | x::l,hn,h=>by
  rw [nJ] at hn;rw [bv,nJ];refine ⟨fun hm => ?_,Xi f l hn.2 fun a ha b hb=>h a (dQ _ ha) b (dQ _ hb)⟩;obtain ⟨y,hy,e⟩:=bX.1 hm;have:=h y (dQ _ hy) x (dW ..) e;subst this;exact hn.1 hy
theorem GK {pa:Int->Int->Prop}:∀(c:FT) (u:Int),GF pa c u->∀y,y∈c.vs->∀z,(pa z y\/pa y z)->z∈c.vs\/z=u
 | .nil,_,_,y,h,_,_=>by cases h
 | .nd w c s,u,⟨⟨hR,hG⟩,hS⟩,y,h,z,hz=>by
  simp only [FT.vs,aY,bG] at h ⊢;rcases h with rfl|h|h
  ·by_cases hzu:z=u
   ·exact .inr hzu
   ·exact .inl (.inr (.inl (aa8 c ((hR.2 z).2 ⟨hzu,hz⟩))))
  ·rcases GK c w hG y h z hz with h1|h1
   ·exact .inl (.inr (.inl h1))
   ·exact .inl (.inl h1)
  ·rcases GK s u hS y h z hz with h1|h1
   ·exact .inl (.inr (.inr h1))
   ·exact .inr h1
structure TrE (v:Int) (f:FT) (E:List Ed):Prop where
 nd:E.Nodup
 mem:∀a b,(a,b)∈E↔a<b/\((a,b)∈f.pr v\/(b,a)∈f.pr v)
section
variable {v:Int} {f:FT} {E:aa Ed} (ht:TrOk v f) (hE:TrE v f E)
include ht
include hE
end
def mE (E:aa Ed) (e:Ed):aa Ed:=E.filter fun x=>decide (x≠e)
theorem mV {E:aa Ed} {e x:Ed}:x∈mE E e↔x∈E/\x≠e:=by simp [mE]
def NoCyc (E:aa Ed):Prop:=∀e,e∈E->¬Con (mE E e) e.1 e.2
theorem NoCyc.sub {E E':aa Ed} (h:NoCyc E) (hs:∀e,e∈E'->e∈E):NoCyc E':=fun e he hc=>
 h e (hs e he) (hc.mono fun x hx=>mV.2 ⟨hs x (mV.1 hx).1,(mV.1 hx).2⟩)
theorem Mo {l:aa Ed} {a b:Int} (h:NoCyc l) (hx:¬Con l a b):NoCyc (l++[(a,b)]):=by
 intro e he hc;by_cases hea:e=(a,b)
 ·subst hea;refine hx (hc.mono fun x Ca => ?_);obtain ⟨h1,h2⟩:=mV.1 Ca;rw [bG,cK] at h1;rcases h1 with h1|h1
  ·exact h1
  ·exact absurd h1 h2
 ·have Ce:e∈l:=by
   rw [bG,cK] at he;rcases he with he|he
   ·exact he
   ·exact absurd he hea
  have hm:mE (l++[(a,b)]) e=mE l e++[(a,b)]:=by
   unfold mE;rw [Ro];simp [mH hea]
  have gM:∀{x y:Int},Con (mE l e) x y->Con l x y:=fun hc=>hc.mono fun x hx=>(mV.1 hx).1
  have Hl:Con l e.1 e.2:=.of Ce;rw [hm] at hc;rcases Con.snoc.1 hc with h1|⟨h1,h2⟩|⟨h1,h2⟩
  ·exact h e Ce h1
  ·exact hx (((gM h1).symm.trans Hl).trans (gM h2).symm)
  ·exact hx (((gM h2).trans Hl.symm).trans (gM h1))
theorem ajE {E:aa Ed} (h:∀i,∀hi:i<E.length,¬Con (E.take i) E[i].1 E[i].2):∀i,i<=E.length->NoCyc (E.take i)
 | 0,_=>by intro e he;simp at he
 | i+1,hi=>by
  rw [rC (by omega)];exact Mo (ajE h i (by omega)) (h i (by omega))
theorem aws {E:aa Ed} (hn:E.Nodup):(∃i,∃hi:i<E.length,Con (E.take i) E[i].1 E[i].2)↔¬NoCyc E:=by
 constructor
 ·rintro ⟨i,hi,hc⟩ h;refine h _ (nH hi) (hc.mono fun x hx=>mV.2 ⟨List.mem_of_mem_take hx,?_⟩);rintro rfl;rw [<-Kb i E,Rq] at hn;exact hn.2.2 _ hx _ (by rw [uU hi];exact dW ..) rfl
 ·intro h;apply yM;intro eD;refine h ?_;have:=ajE (E:=E) (fun i hi hc=>eD ⟨i,hi,hc⟩) E.length (eX _);rwa [ow] at this
def ed (a b:Int):Ed:=if a<b then (a,b) else (b,a)
theorem zF (a b:Int):ed a b=ed b a:=by
 unfold ed;by_cases h:a<b
 ·rw [if_pos h,if_neg (by omega)]
 ·by_cases h':b<a
  ·rw [if_neg h,if_pos h']
  ·have:a=b:=by omega
   rw [this]
theorem aur {v u w:Int} (h:ed v u=ed v w):u=w:=by
 unfold ed at h;split at h<;>split at h<;>simp only [di] at h<;>omega
theorem aus (v u:Int):(ed v u).1=v\/(ed v u).2=v:=by
 unfold ed;split
 ·exact .inl rfl
 ·exact .inr rfl
def ad (E:aa Ed) (u v:Int):Prop:=(u,v)∈E\/(v,u)∈E
theorem Sc {E:aa Ed} {u v:Int} (h:ad E u v):ad E v u:=h.symm
theorem ajF {E:aa Ed} {a b:Int} (h:ed a b∈E):Con E a b:=by
 unfold ed at h;split at h
 ·exact .of h
 ·exact (Con.of h).symm
section
variable {n:Nat} {E:aa Ed} (hE:∀e,e∈E->eF n e=true)
include hE
theorem Sg {a b:Int}:ed a b∈E↔ad E a b:=by
 unfold ed ad;constructor
 ·intro h;split at h
  ·exact .inl h
  ·exact .inr h
 ·rintro (h|h)
  ·have:=CX (hE _ h);rw [if_pos this.2.1];exact h
  ·have:=CX (hE _ h);simp only at this;rw [if_neg (by omega)];exact h
theorem Si {a b:Int} (h:ad E a b):(0<=a/\a<n)/\(0<=b/\b<n)/\a≠b:=by
 rcases h with h|h
 ·have:=CX (hE _ h);simp only at this;omega
 ·have:=CX (hE _ h);simp only at this;omega
end
def Nn (E:aa Ed) (v fr x:Int):Prop:=fr = -1\/Con (mE E (ed v fr)) v x
theorem ajG (E:aa Ed) (v fr:Int):Nn E v fr v:=.inr (.refl _)
section
variable {E:aa Ed} (hN:NoCyc E)
include hN
theorem Sj {u v:Int} (he:ed u v∈E):¬Con (mE E (ed u v)) u v:=by
 intro hc;refine hN _ he ?_;unfold ed at hc ⊢;split
 ·rename_i h;rw [if_pos h] at hc;exact hc
 ·rename_i h;rw [if_neg h] at hc;exact hc.symm
theorem aut {u v x:Int} (he:ed u v∈E) {e1:Ed} (h1:e1.1=v\/e1.2=v) (h:Con (mE E (ed u v)) u x):Con (mE E e1) u x:=by
 induction h with
 | refl=>exact .refl _
 | fwd hc hm ih=>
  refine .fwd ih (mV.2 ⟨(mV.1 hm).1,?_⟩);rintro rfl;rcases h1 with h1|h1
  ·simp only at h1;subst h1;exact Sj hN he hc
  ·simp only at h1;subst h1;exact Sj hN he (.fwd hc hm)
 | bwd hc hm ih=>
  refine .bwd ih (mV.2 ⟨(mV.1 hm).1,?_⟩);rintro rfl;rcases h1 with h1|h1
  ·simp only at h1;subst h1;exact Sj hN he (.bwd hc hm)
  ·simp only at h1;subst h1;exact Sj hN he hc
theorem anX {n:Nat} (hE:∀e,e∈E->eF n e=true) {v fr u x:Int} (hu:Nb (ad E) v fr u) (h:Nn E u v x):Nn E v fr x/\x≠v:=by
 have had:ad E u v:=by
  rcases hu.2 with h|h
  ·exact h
  ·exact Sc h
 have nZ:=Si hE had;have he:ed u v∈E:=(Sg hE).2 had;have hc:Con (mE E (ed u v)) u x:=by
  rcases h with h|h
  ·omega
  ·exact h
 refine ⟨.inr ?_,?_⟩
 ·refine Con.trans ?_ (aut hN he (e1:=ed v fr) (aus v fr) hc);refine ajF (mV.2 ⟨by rw [zF];exact he,fun h=>hu.1 (aur h)⟩)
 ·rintro rfl;exact Sj hN he hc
theorem azO {n:Nat} (hE:∀e,e∈E->eF n e=true) {v fr u u' x:Int} (hu:Nb (ad E) v fr u) (hu':Nb (ad E) v fr u') (h:Nn E u v x) (h':Nn E u' v x):u=u':=by
 have conv:∀{w:Int},Nb (ad E) v fr w->ad E w v:=fun hw=>by
  rcases hw.2 with h|h
  ·exact h
  ·exact Sc h
 have nZ:=Si hE (conv hu);have he:=(Sg hE).2 (conv hu);have Hf:=(Sg hE).2 (conv hu');have hc:Con (mE E (ed u v)) u x:=by
  rcases h with h|h
  ·omega
  ·exact h
 have iW:Con (mE E (ed u' v)) u' x:=by
  rcases h' with h|h
  ·omega
  ·exact h
 apply yM;intro aX;refine Sj hN Hf ?_;have h1:Con (mE E (ed u' v)) u x:=aut hN he (e1:=ed u' v) (by rw [zF];exact aus v u') hc;have h2:Con (mE E (ed u' v)) u v:=ajF (mV.2 ⟨he,fun h=>aX (aur (v:=v) (by rw [zF v u,zF v u'];exact h))⟩);exact (iW.trans h1.symm).trans h2
end
def WG (n:Nat) (pa:Int->Int->Prop) (v fr:Int) (seen:aa Bool) (f:FT) (seen':aa Bool):Prop:=
 (v::f.vs).Nodup/\(∀x,x∈v::f.vs->(0<=x/\x<n)/\seen.getD x.toNat false=false)/\(∀x:Nat,x<n->(seen'.getD x false=true↔seen.getD x false=true\/(x:Int)∈v::f.vs))/\RtO pa v fr f/\GF pa f v
def WNC (n:Nat) (E:aa Ed) (v fr:Int) (seen:aa Bool):Prop:=NoCyc E/\∀x:Nat,x<n->Nn E v fr x->seen.getD x false=false
section
variable {n:Nat} {E:aa Ed} (hE:∀e,e∈E->eF n e=true)
include hE
theorem auu {v fr u:Int} (h:Nb (ad E) v fr u):(0<=u/\u<n):=by
 rcases h.2 with h|h
 ·exact (Si hE h).1
 ·exact (Si hE h).2.1
theorem ax4 (hn:n<=12) (qo:E.length<=1048576):∀(d:Nat) (v fr:Int) (seen:aa Bool) (W:aa Int),seen.length=n->(0<=v/\v<n)->seen.getD v.toNat false=false->W.Nodup->(∀x,x∈W->(0<=x/\x<n)/\seen.getD x.toNat false=true)->n<W.length+d ->
  ∃t ring seen',xC d ((n:Int),E,v,fr,seen)=some ((t,ring),seen')/\seen'.length=n/\(ring=false->∃f,t=tr v f/\WG n (ad E) v fr seen f seen')/\(WNC n E v fr seen->ring=false/\∀x,x∈t->Nn E v fr x)
 | 0,v,fr,seen,W,_,_,_,hWn,hW,hd=>by
  have:=vK n W hWn (fun x hx=>(hW x hx).1)
  omega
 | d+1,v,fr,seen,W,hs,hv,hvf,hWn,hW,hd=>by
  have hm:maxLen=9223372036854775807:=by decide
  have hvn:v.toNat<seen.length:=by omega
  have hvW:v∉W:=fun h=>by
   have:=(hW v h).2
   rw [hvf] at this;cases this
  have aFN:(v::W).Nodup:=nJ.2 ⟨hvW,hWn⟩
  show ∃t ring seen',K9 (xC d) BIG _=_/\_
  rw [apI]
  rw [bV hv.1 (by omega),aR hvn,af]
  refine dV (x:=([v],seen.set v.toNat true,(0:Int))) (P:=fun o=>∃t ring seen',o=some ((t,ring),seen')/\seen'.length=n/\(ring=false->∃f,t=tr v f/\WG n (ad E) v fr seen f seen')/\(WNC n E v fr seen->ring=false/\∀x,x∈t->Nn E v fr x))
   (fun (x:aa Int × aa Bool × Int)=>∃(i:Nat) (f:FT),x.2.2=(i:Int)/\i<=n/\x.1=tr v f/\x.2.1.length=n/\(v::f.vs).Nodup/\(∀y,y∈v::f.vs->(0<=y/\y<n)/\seen.getD y.toNat false=false)/\(∀y:Nat,y<n->(x.2.1.getD y false=true↔seen.getD y false=true\/(y:Int)∈v::f.vs))/\QF (ad E) v fr i f/\(WNC n E v fr seen->∀y,y∈f.vs->∃u:Nat,u<i/\Nb (ad E) v fr u/\Nn E u v y))
   (fun x=>n-x.2.2.toNat) (fun _ (b:(aa Int × aa Bool) ⊕ (aa Int × Bool × aa Bool))=>(∃f seen',b = .inl (tr v f,seen')/\seen'.length=n/\WG n (ad E) v fr seen f seen'/\(WNC n E v fr seen->∀x,x∈tr v f->Nn E v fr x))\/(∃t seen',b = .inr (t,true,seen')/\seen'.length=n/\¬WNC n E v fr seen)) (by simp [BIG];omega)
   ⟨0,.nil,rfl,by omega,rfl,by rw [lL];exact hs,by simp [FT.vs],fun y hy => ?_,fun y hy => ?_,⟨List.Pairwise.nil,fun u => ?_,trivial⟩,fun _ y hy=>by simp [FT.vs] at hy⟩ (fun self x hx CZ => ?_) (fun b hb => ?_)
  ·simp only [FT.vs,aY,sO,or_false] at hy
   subst hy
   exact ⟨hv,hvf⟩
  ·rw [aqN hvn]
   simp only [FT.vs,aY,sO,or_false]
   constructor
   ·rintro (h|h)
    ·exact .inl h
    ·exact .inr (by omega)
   ·rintro (h|h)
    ·exact .inl h
    ·exact .inr (by omega)
  ·simp only [FT.rts,sO,false_iff,not_and]
   intro h
   have:=auu hE h
   omega
  ·obtain ⟨out,sn,u⟩:=x
   obtain ⟨i,f,h1,h2,h3,h4,h5,h6,h7,h8,h9⟩:=hx
   simp only at h1 h2 h3 h4 h5 h6 h7 h8 h9 CZ ⊢
   subst h1 h3
   by_cases hi:i<n
   ·have hed:(bif decide (v<(i:Int)) then some (v,(i:Int)) else some ((i:Int),v))=some (ed v i):=by
     unfold ed;by_cases h:v<(i:Int)
     ·rw [ak h,if_pos h];rfl
     ·rw [az h,if_neg h];rfl
    simp only [show ((i:Int)<(n:Int)) from by omega,decide_true,ai,hed,af]
    have ays:¬Nb (ad E) v fr i->∃b,self (tr v f,sn,IntKind.wrap .i64 ((i:Int)+1))=some b/\((∃f seen',b = .inl (tr v f,seen')/\seen'.length=n/\WG n (ad E) v fr seen f seen'/\(WNC n E v fr seen->∀x,x∈tr v f->Nn E v fr x))\/(∃t seen',b = .inr (t,true,seen')/\seen'.length=n/\¬WNC n E v fr seen)):=by
     intro eD
     rw [bT (by omega)]
     exact CZ _ ⟨i+1,f,rfl,by omega,rfl,h4,h5,h6,h7,azN h8 eD,fun hw y hy=>by
      obtain ⟨u,g2,g3⟩:=h9 hw y hy
      exact ⟨u,by omega,g3⟩⟩ (by simp;omega)
    by_cases hif:(i:Int)=fr
    ·rw [ak hif]
     simp only [ai,af]
     exact ays (fun h=>h.1 hif)
    ·rw [az hif]
     rw [ax,Bg _ _ (by omega),af]
     by_cases bn:ed v i∈E
     ·have had:ad E v i:=(Sg hE).1 bn
      have ol:Nb (ad E) v fr i:=⟨hif,.inr had⟩
      have Nv:i<sn.length:=by omega
      rw [ak bn]
      simp only [bB,af,ax]
      rw [aF Nv,aR Nv,af]
      have hgi:sn.getD i false=sn[i]:=gD (aR Nv)
      -- nothing of i's side was met before
      have arl:WNC n E v fr seen->∀x:Nat,x<n->Nn E i v x->sn.getD x false=false:=by
       intro hw x hx hb
       obtain ⟨b1,b2⟩:=anX hw.1 hE ol hb
       cases hg:sn.getD x false with
       | false=>rfl
       | true=>
        exfalso
        rcases (h7 x hx).1 hg with h|h
        ·rw [hw.2 x hx b1] at h;cases h
        ·rw [aY] at h
         rcases h with h|h
         ·exact b2 h
         ·obtain ⟨u,u1,u2,u3⟩:=h9 hw _ h
          have:=azO hw.1 hE u2 ol u3 hb
          omega
      by_cases hsi:sn[i]=true
      ·rw [hsi,ai,af]
       refine ⟨_,rfl,.inr ⟨_,_,rfl,h4,fun hw => ?_⟩⟩
       have:=arl hw i hi (ajG E i v)
       rw [hgi,hsi] at this
       cases this
      ·have qh:sn[i]=false:=by simpa using hsi
       rw [qh,ax]
       obtain ⟨t,ring,sn',e1,w1,w2,w3⟩:=ax4 hn qo d i v sn (v::W) h4 (by omega) (by rw [il,hgi,qh]) aFN (fun x hx=>by
        rw [aY] at hx
        rcases hx with rfl|hx
        ·exact ⟨hv,by rw [h7 x.toNat (by omega),jF hv.1];exact .inr (dW ..)⟩
        ·obtain ⟨x1,x2⟩:=hW x hx
         exact ⟨x1,by rw [h7 x.toNat (by omega)];exact .inl x2⟩) (by simp only [bF];omega)
       rw [e1,af]
       cases ring with
       | true=>
        rw [ai,af]
        refine ⟨_,rfl,.inr ⟨_,_,rfl,w1,fun hw => ?_⟩⟩
        have:=(w3 ⟨hw.1,arl hw⟩).1
        cases this
       | false=>
        obtain ⟨g,rfl,k1,k2,k3,k4,k5⟩:=w2 rfl
        have Cb:f.vs.length<=12:=by
         have:=vK n (v::f.vs) h5 (fun x hx=>(h6 x hx).1)
         simp only [bF] at this;omega
        have hgl:g.vs.length<=12:=by
         have:=vK n (_::g.vs) k1 (fun x hx=>(k2 x hx).1)
         simp only [bF] at this;omega
        simp only [ax]
        rw [ak (by simp only [xS];omega),ai,ak (by simp only [dP,xS,bF,bQ];omega),ai,af]
        have eo:(tr v f++tr i g)++[v]=tr v (f.app (.nd i g .nil)):=by simp [tr,aul,FT.sg]
        simp only [eo]
        have evs:(f.app (.nd i g .nil)).vs=f.vs++((i:Int)::g.vs):=by rw [aum];simp [FT.vs]
        rw [bT (by omega)]
        refine CZ _ ⟨i+1,_,rfl,by omega,rfl,w1,?_,fun y hy => ?_,fun y hy => ?_,aBy h8 ol k4 k5,fun hw y hy => ?_⟩ (by simp;omega)
        ·rw [evs]
         have:(v::(f.vs++(i:Int)::g.vs))=(v::f.vs)++(i:Int)::g.vs:=rfl
         rw [this,Rq]
         refine ⟨h5,k1,fun a ha b hb d9 => ?_⟩
         subst d9
         have h6':=h6 a ha
         have h7':=(h7 a.toNat (by omega)).2 (.inr (by rw [jF h6'.1.1];exact ha))
         rw [(k2 a hb).2] at h7'
         cases h7'
        ·rw [evs] at hy
         have:y∈(v::f.vs)\/y∈(i:Int)::g.vs:=by
          rw [aY,bG] at hy
          rcases hy with hy|hy|hy
          ·exact .inl (hy▸dW ..)
          ·exact .inl (dQ _ hy)
          ·exact .inr hy
         rcases this with hy|hy
         ·exact h6 y hy
         ·refine ⟨(k2 y hy).1,?_⟩
          have h0:=(k2 y hy).1
          cases hg:seen.getD y.toNat false with
          | false=>rfl
          | true=>
           have:=(h7 y.toNat (by omega)).2 (.inl hg)
           rw [(k2 y hy).2] at this
           cases this
        ·rw [k3 y hy,h7 y hy,evs]
         simp only [aY,bG]
         constructor
         ·rintro ((h|h|h)|h|h)
          ·exact .inl h
          ·exact .inr (.inl h)
          ·exact .inr (.inr (.inl h))
          ·exact .inr (.inr (.inr (.inl h)))
          ·exact .inr (.inr (.inr (.inr h)))
         ·rintro (h|h|h|h|h)
          ·exact .inl (.inl h)
          ·exact .inl (.inr (.inl h))
          ·exact .inl (.inr (.inr h))
          ·exact .inr (.inl h)
          ·exact .inr (.inr h)
        ·rw [evs,bG] at hy
         rcases hy with hy|hy
         ·obtain ⟨u,g2,g3⟩:=h9 hw y hy
          exact ⟨u,by omega,g3⟩
         ·exact ⟨i,by omega,ol,(w3 ⟨hw.1,arl hw⟩).2 y ((xU _ _ _).2 hy)⟩
     ·rw [az bn]
      simp only [gW,af,ai]
      refine ays (fun h=>bn ((Sg hE).2 ?_))
      rcases h.2 with h|h
      ·exact Sc h
      ·exact h
   ·simp only [show ¬((i:Int)<(n:Int)) from by omega,decide_false,ax]
    have bn:i=n:=by omega
    subst bn
    refine ⟨_,rfl,.inl ⟨f,sn,rfl,h4,⟨h5,h6,h7,⟨h8.1,fun u => ?_⟩,h8.2.2⟩,fun hw x hx => ?_⟩⟩
    ·rw [h8.2.1]
     exact ⟨fun h=>h.1,fun h=>⟨h,(auu hE h).2⟩⟩
    ·rw [xU,aY] at hx
     rcases hx with rfl|hx
     ·exact ajG ..
     ·obtain ⟨u,u1,u2,u3⟩:=h9 hw x hx
      exact (anX hw.1 hE u2 u3).1
  ·rcases hb with ⟨f,seen',rfl,h1,h2,h3⟩|⟨t,seen',rfl,h1,h2⟩
   ·exact ⟨_,_,_,rfl,h1,fun _=>⟨f,rfl,h2⟩,fun hw=>⟨rfl,h3 hw⟩⟩
   ·exact ⟨_,_,_,rfl,h1,fun h=>(by cases h),fun hw=>absurd hw h2⟩
end
theorem zG (l:aa Int) (x:Int) (hl:l.length<=1048576):jP (l,x)=some (decide (x∈l),()):=by
 have hm:maxLen=9223372036854775807:=by decide
 show Wv BIG _=_;rw [avZ,xV l (by omega) (fun y=>decide (y=x)) true (fun self i y hy => ?_) (fun self=>by simp)]
 ·rw [af];have:l.any (fun y=>decide (y=x))=true↔x∈l:=by
   rw [nI];constructor
   ·rintro ⟨y,hy,h⟩;rw [decide_eq_true_eq] at h;rw [<-h];exact hy
   ·exact fun h=>⟨x,h,by simp⟩
  by_cases h:x∈l
  ·rw [if_pos (this.2 h),ak h]
  ·rw [if_neg (fun h'=>h (this.1 h')),az h]
 ·have hi:=(aZ hy).1;simp only [show ((i:Int)<(l.length:Int)) from by omega,decide_true,ai];rw [aF hi,hy,af,bT (by omega)];by_cases h:y=x<;>simp [h]
theorem aqO {v:Int} {c:FT} (h:TrOk v c):Lb (tr v c)=some (true,()):=by
 have hm:maxLen=9223372036854775807:=by decide
 have hl:=h.len;have bN:=xS v c;have hsl:=aa6 c v;have e0:(tr v c)[Int.toNat 0]?=some v:=rfl;have b0:∀{B:Type} {k:Nat->ah B},bnd (tr v c).length 0 k=k (Int.toNat 0):=fun {B k}=>bV (by omega) (by omega)
 show La BIG _=_;rw [apN];simp only [b0,e0,af];refine dV (P:=fun o=>o=some (true,())) (fun (x:aa Int × aa Int × Int)=>∃j:Nat,x.2.2=((j+1:Nat):Int)/\j<=(c.sg v).length/\fM uR ([v],[v]) ((c.sg v).take j)=some (x.1,x.2.1)/\1<=x.1.length/\x.1.length<=j+1/\x.2.1.length<=j+1) (fun x=>(tr v c).length-x.2.2.toNat)
  (fun _ (b:aa Int ⊕ Bool)=>b = .inl [v]) (by simp [BIG];omega) ⟨0,rfl,by omega,rfl,by simp,by simp,by simp⟩ (fun self x hx hs => ?_) (fun b hb=>by subst hb;rfl)
 obtain ⟨p,q,jj⟩:=x;obtain ⟨j,h1,h2,h3,k1,k2,k3⟩:=hx;simp only at h1 h2 h3 k1 k2 k3 hs ⊢;subst h1;by_cases hj:j<(c.sg v).length
 ·have hj1:j+1<(tr v c).length:=by omega
  have hy:(tr v c)[j+1]?=some (c.sg v)[j]:=by
   show (c.sg v)[j]?=_;exact aR hj
  have bj:∀{B:Type} {k:Nat->ah B},bnd (tr v c).length ((j+1:Nat):Int) k=k (j+1):=fun {B k}=>aF hj1
  generalize uF:(c.sg v)[j]=y at hy
  -- the step is one of the run's
  have gP:∃s',uR (p,q) y=some s':=by
   have hr:=h.run;rw [<-Kb j (c.sg v),aa7,h3,af,uU hj,fM,uF] at hr;cases g_:uR (p,q) y with
   | none=>rw [g_] at hr;cases hr
   | some s'=>exact ⟨s',rfl⟩
  have Nt:∀{s'},uR (p,q) y=some s'->fM uR ([v],[v]) ((c.sg v).take (j+1))=some s':=by
   intro s' g_;rw [rC hj,aa7,h3,af,fM,uF,g_];rfl
  obtain ⟨s',gP⟩:=gP;have ht:=Nt gP;simp only [show (((j+1:Nat):Int)<((tr v c).length:Int)) from by omega,decide_true,ai,bj,hy,af];have hw1:IntKind.wrap .i64 ((p.length:Int)-1)=((p.length-1:Nat):Int):=by rw [wr (by omega) (by omega)];omega
  have aFO:(bif decide ((1:Int)<(p.length:Int)) then
     bnd p.length (IntKind.wrap .i64 ((p.length:Int)-(2:Int))) fun n8=>
     Option.bind p[n8]? fun y9=>
     some (decide (y=y9))
     else some false)=some (decide (1<p.length/\p.getD (p.length-2) 0=y)):=by
   by_cases h1:1<p.length
   ·have hw2:IntKind.wrap .i64 ((p.length:Int)-2)=((p.length-2:Nat):Int):=by rw [wr (by omega) (by omega)];omega
    rw [ak (by omega),ai,hw2,aF (by omega),getD_at (by omega),af];by_cases hq:p.getD (p.length-2) 0=y
    ·rw [ak hq.symm,ak ⟨h1,hq⟩]
    ·rw [az (fun h=>hq h.symm),az (fun h=>hq h.2)]
   ·rw [az (by omega),ax,az (fun h=>h1 h.1)]
  rw [aFO,af];unfold uR at gP;by_cases hc:1<p.length/\p.getD (p.length-2) 0=y
  ·rw [if_pos hc] at gP;cases gP;simp only [ak hc,ai,hw1];rw [ak (by omega),ai,il,ak (by omega),ai,af,t_,uI];simp only;rw [bT (by omega)];refine hs _ ⟨j+1,rfl,hj,ht,?_,?_,by simp only;omega⟩ (by simp;omega)
   ·simp only [iy];omega
   ·simp only [iy];omega
  ·rw [if_neg hc] at gP;split at gP;case isFalse=>cases gP
   case isTrue hq=>
   cases gP;simp only [az hc,ax];rw [zG q y (by omega),af];simp only [az hq.2,ax];rw [ak (by simp only [bF,bQ];omega),ai,ak (by simp only [bF,bQ];omega),ai,af];simp only;rw [bT (by omega)];refine hs _ ⟨j+1,rfl,hj,ht,?_,?_,?_⟩ (by simp;omega)
   ·simp only [dP,bF,bQ];omega
   ·simp only [dP,bF,bQ];omega
   ·simp only [dP,bF,bQ];omega
 ·have:j=(c.sg v).length:=by omega
  subst this;rw [ow,h.run] at h3;cases h3;simp only [show ¬((((c.sg v).length+1:Nat):Int)<((tr v c).length:Int)) from by omega,decide_false,ax];exact ⟨_,rfl,rfl⟩
theorem auv {v:Int} {c:FT} (h:TrOk v c):O0 (tr v c)=some (true,()):=by
 have hm:maxLen=9223372036854775807:=by decide
 have hl:=h.len;have bN:=xS v c;show OZ BIG _=_;rw [atf,dH,show aW ((tr v c).length:Int) 1 23=true from aV.2 (by omega),af];simp only [bB,ax];rw [xV (tr v c) (by omega) (fun y=>!aW y 0 11) false (fun self i y hy => ?_) (fun self=>by simp)]
 ·have:(tr v c).any (fun y=>!aW y 0 11)=false:=by
   rw [List.any_eq_false];intro y hy;rw [show aW y 0 11=true from aV.2 (h.rg y ((xU _ _ _).1 hy))];simp
  rw [this];simp only [iK,if_false,af];rw [aqO h];rfl
 ·have hi:=(aZ hy).1;simp only [show ((i:Int)<((tr v c).length:Int)) from by omega,decide_true,ai];rw [aF hi,hy,af,dH,af,bT (by omega)];cases aW y 0 11<;>rfl
theorem aqP (t:aa Int) (ht:∀x,x∈t->0<=x/\x<=11) (hl:t.length<=1048576):∃V,kH t=some (V,())/\V.Pairwise (· < ·)/\(∀x,x∈V↔x∈t)/\V.length<=12:=by
 have hm:maxLen=9223372036854775807:=by decide
 show ∃V,K_ BIG _=_/\_;rw [apL];refine dV (P:=fun o=>∃V:aa Int,o=some (V,())/\V.Pairwise (· < ·)/\(∀x,x∈V↔x∈t)/\V.length<=12) (fun (s:aa Int × Int)=>∃i:Nat,s.2=i/\i<=12/\s.1.Pairwise (· < ·)/\(∀x,x∈s.1↔x∈t/\x<i)/\s.1.length<=i) (fun s=>12-s.2.toNat)
  (fun _ (V:aa Int)=>V.Pairwise (· < ·)/\(∀x,x∈V↔x∈t)/\V.length<=12) (by simp [BIG]) ⟨0,rfl,by omega,by simp,fun x => ?_,by simp⟩ (fun self s hx hs => ?_) (fun V hV=>⟨V,rfl,hV⟩)
 ·simp only [sO,false_iff,not_and];intro hx;have:=ht x hx;omega
 obtain ⟨s,j⟩:=s;obtain ⟨i,h1,h2,h3,h4,h5⟩:=hx;simp only at h1 h2 h3 h4 h5 hs ⊢;subst h1;by_cases hi:i<12
 ·simp only [show ((i:Int)<12) from by omega,decide_true,ai];rw [zG t i hl,af,bT (by omega)];by_cases bn:(i:Int)∈t
  ·rw [ak bn,ai,ak (by simp only [bF,bQ];omega),ai,af];refine hs _ ⟨i+1,rfl,by omega,?_,fun x => ?_,by simp only [dP,bF,bQ];omega⟩ (by simp;omega)
   ·rw [List.pairwise_append];refine ⟨h3,by simp,fun a ha b hb => ?_⟩;rw [cK] at hb;subst hb;exact ((h4 a).1 ha).2
   ·simp only [bG,cK];rw [h4];constructor
    ·rintro (⟨g1,g2⟩|rfl)
     ·exact ⟨g1,by omega⟩
     ·exact ⟨bn,by omega⟩
    ·rintro ⟨g1,g2⟩;by_cases hx:x=(i:Int)
     ·exact .inr hx
     ·exact .inl ⟨g1,by omega⟩
  ·rw [az bn,ax,af];refine hs _ ⟨i+1,rfl,by omega,h3,fun x => ?_,by simp only;omega⟩ (by simp;omega);simp only;rw [h4];constructor
   ·rintro ⟨g1,g2⟩;exact ⟨g1,by omega⟩
   ·rintro ⟨g1,g2⟩;refine ⟨g1,?_⟩;by_cases hx:x=(i:Int)
    ·subst hx;exact absurd g1 bn
    ·omega
 ·simp only [show ¬((i:Int)<12) from by omega,decide_false,ax];have:i=12:=by omega
  subst this;refine ⟨_,rfl,h3,fun x => ?_,h5⟩;rw [h4];exact ⟨fun h=>h.1,fun h=>⟨h,by have:=ht x h;omega⟩⟩
def aM (L:aa aC) (k:Int):aa Ed:=(L.filter fun x=>x.2.2.2&&decide (k<=x.2.2.1)).map fun x=>(x.1,x.2.1)
theorem acF (L:aa aC) (k:Int):(aM L k).length<=L.length:=by
 unfold aM;rw [dX];exact qM _ _
theorem aa9 (n:Int) (L:aa aC) (k:Int) (hL:L.length<=1048576):K5 ((n,L),k)=some (aM L k,()):=by
 have hm:maxLen=9223372036854775807:=by decide
 show CB BIG _=_;rw [Zp];refine dV (P:=fun o=>o=some (aM L k,())) (fun (s:aa Ed × Int)=>∃i:Nat,s.2=i/\i<=L.length/\s.1=aM (L.take i) k) (fun s=>L.length-s.2.toNat)
  (fun _ (V:aa Ed)=>V=aM L k) (by simp [BIG];omega) ⟨0,rfl,by omega,rfl⟩ (fun self s hx hs => ?_) (fun V hV=>by rw [hV])
 obtain ⟨s,j⟩:=s;obtain ⟨i,h1,h2,h3⟩:=hx;simp only at h1 h2 h3 hs ⊢;subst h1;by_cases hi:i<L.length
 ·have cZ:=acF (L.take i) k;rw [iy] at cZ;simp only [show ((i:Int)<(L.length:Int)) from by omega,decide_true,ai];rw [aF hi,aR hi,af,bT (by omega)];have hn:aM (L.take (i+1)) k=aM (L.take i) k++(if L[i].2.2.2=true/\k<=L[i].2.2.1 then [(L[i].1,L[i].2.1)] else []):=by
   unfold aM;rw [rC hi,Ro,uH];congr 1;by_cases h1:L[i].2.2.2=true<;>by_cases h2:k<=L[i].2.2.1<;>simp [h1,h2]
  cases ht:L[i].2.2.2 with
  | false=>
   rw [ax];simp only [af,ax];exact hs _ ⟨i+1,rfl,hi,by simp only;rw [hn,if_neg (fun h=>by rw [ht] at h;cases h.1),m_,h3]⟩ (by simp;omega)
  | true=>
   rw [ai];simp only [af];by_cases h2:k<=L[i].2.2.1
   ·rw [ak h2,ai,ak (by rw [h3];simp only [bF,bQ];omega),ai,af];exact hs _ ⟨i+1,rfl,hi,by simp only;rw [hn,if_pos ⟨ht,h2⟩,h3]⟩ (by simp;omega)
   ·rw [az h2,ax,af];exact hs _ ⟨i+1,rfl,hi,by simp only;rw [hn,if_neg (fun h=>h2 h.2),m_,h3]⟩ (by simp;omega)
 ·simp only [show ¬((i:Int)<(L.length:Int)) from by omega,decide_false,ax];have:i=L.length:=by omega
  subst this;exact ⟨_,rfl,by rw [h3,ow]⟩
structure GT (n:Nat) (E:List Ed) (v:Int) (f:FT):Prop where
 nd:(v::f.vs).Nodup
 rg:∀x,x∈v::f.vs->0<=x/\x<n
 rt:RtO (ad E) v (-1) f
 gf:GF (ad E) f v
theorem aqQ {n:Nat} {E:aa Ed} (hE:∀e,e∈E->eF n e=true) (h1:1<=n) (h2:n<=12) (qo:E.length<=1048576) (r:Int) (hr:0<=r/\r<n) :
  ∃t b,Gm ((n:Int),E,r)=some ((t,b),())/\(b=true->∃f,t=tr r f/\GT n E r f)/\(NoCyc E->b=true):=by
 have hm:maxLen=9223372036854775807:=by decide
 obtain ⟨t,ring,sn,e1,w1,w2,w3⟩:=ax4 hE h2 qo 64 r (-1) (List.replicate n false) [] (by simp) hr (by rw [gD (List.getElem?_replicate_of_lt (show r.toNat<n by omega))]) (by simp) (by simp) (by simp;omega);have e2:Gm ((n:Int),E,r)=some (if ring=true then ([],false) else (t,true),()):=by
  show OW BIG _=_;rw [atd,dH,show aW (n:Int) 1 12=true from aV.2 (by omega),af];simp only [bB,ax];rw [wr (n:=(n:Int)-1) (by omega) (by omega),dH,show aW r 0 ((n:Int)-1)=true from aV.2 (by omega),af,af];simp only [bB,ax];rw [xV E (by omega) (fun y=>!eF n y) ([],false) (fun self i y hy => ?_) (fun self=>by simp)]
  ·have:E.any (fun y=>!eF n y)=false:=by
    rw [List.any_eq_false];intro y hy;rw [hE y hy];simp
   rw [this];simp only [iK,if_false,af];rw [ak (by omega),ai,ak (by omega),ai,il,e1];cases ring<;>rfl
  ·have hi:=(aZ hy).1;simp only [show ((i:Int)<(E.length:Int)) from by omega,decide_true,ai];rw [aF hi,hy,af,GG,af,bT (by omega)];cases eF n y<;>rfl
 cases ring with
 | true=>
  refine ⟨[],false,e2,fun h=>(by cases h),fun hN => ?_⟩;have:=(w3 ⟨hN,fun x hx _=>gD (List.getElem?_replicate_of_lt hx)⟩).1;cases this
 | false=>
  refine ⟨t,true,e2,fun _ => ?_,fun _=>rfl⟩;obtain ⟨f,rfl,k1,k2,k3,k4,k5⟩:=w2 rfl;exact ⟨f,rfl,k1,fun x hx=>(k2 x hx).1,k4,k5⟩
theorem aqR {pa:Int->Int->Prop}:∀(f:FT) (v:Int),(∀w,w∈f.rts->pa w v\/pa v w)->GF pa f v->∀{a b:Int},(a,b)∈f.pr v->pa b a\/pa a b
 | .nil,_,_,_,_,_,h=>by cases h
 | .nd w c s,v,hr,⟨⟨hR,hG⟩,hS⟩,a,b,h=>by
  simp only [FT.pr,aY,bG,di] at h;rcases h with ⟨rfl,rfl⟩|h|h
  ·exact hr _ (dW ..)
  ·exact aqR c w (fun x hx=>((hR.2 x).1 hx).2) hG h
  ·exact aqR s v (fun x hx=>hr x (dQ _ hx)) hS h
theorem ajH:∀(f:FT) (v:Int) {z:Int},z∈f.rts->(v,z)∈f.pr v
 | .nil,_,_,h=>by cases h
 | .nd w c s,v,z,h=>by
  simp only [FT.rts,aY] at h;simp only [FT.pr,aY,bG];rcases h with rfl|h
  ·exact .inl rfl
  ·exact .inr (.inr (ajH s v h))
theorem acG {pa:Int->Int->Prop}:∀(f:FT) (v:Int),GF pa f v->∀y,y∈f.vs->∀z,(pa z y\/pa y z)->(y,z)∈f.pr v\/(z,y)∈f.pr v
 | .nil,_,_,y,h,_,_=>by cases h
 | .nd w c s,v,⟨⟨hR,hG⟩,hS⟩,y,h,z,hz=>by
  simp only [FT.vs,aY,bG] at h;simp only [FT.pr,aY,bG];rcases h with rfl|h|h
  ·by_cases hzv:z=v
   ·subst hzv;exact .inr (.inl rfl)
   ·exact .inl (.inr (.inl (ajH c y ((hR.2 z).2 ⟨hzv,hz⟩))))
  ·rcases acG c w hG y h z hz with h|h
   ·exact .inl (.inr (.inl h))
   ·exact .inr (.inr (.inl h))
  ·rcases acG s v hS y h z hz with h|h
   ·exact .inl (.inr (.inr h))
   ·exact .inr (.inr (.inr h))
theorem ajI {pa:Int->Int->Prop}:∀(f:FT) (v:Int),(v::f.vs).Nodup->GF pa f v->∀{p w:Int},(p,w)∈f.pr v->∃c:FT,RtO pa w p c/\GF pa c w/\p∉w::c.vs
 | .nil,_,_,_,_,_,h=>by cases h
 | .nd u c s,v,hn,⟨⟨hR,hG⟩,hS⟩,p,w,h=>by
  have hn':(v::(u::(c.vs++s.vs))).Nodup:=hn;rw [nJ,nJ,Rq] at hn';obtain ⟨n1,n2,n3,n4,n5⟩:=hn';simp only [FT.pr,aY,bG,di] at h;rcases h with ⟨rfl,rfl⟩|h|h
  ·refine ⟨c,hR,hG,fun hm=>n1 ?_⟩;rw [aY] at hm;rcases hm with hm|hm
   ·rw [hm];exact dW ..
   ·exact dQ _ (jl _ hm)
  ·exact ajI c u (nJ.2 ⟨fun hm=>n2 (jl _ hm),n3⟩) hG h
  ·exact ajI s v (nJ.2 ⟨fun hm=>n1 (dQ _ (jD _ hm)),n4⟩) hS h
section
variable {n:Nat} {E:aa Ed} (hE:∀e,e∈E->eF n e=true) {v:Int} {f:FT} (h:GT n E v f)
include hE h
theorem GT.con (x:Int):x∈v::f.vs↔Con E v x:=by
 constructor
 ·intro hx;rw [aY] at hx;rcases hx with rfl|hx
  ·exact .refl _
  ·refine Xh f v (Con E v) (.refl _) (fun a b d9 ha => ?_) x hx;have:=aqR f v (fun w hw=>((h.rt.2 w).1 hw).2) h.gf d9;have had:ad E a b:=by
    rcases this with h|h
    ·exact Sc h
    ·exact h
   exact ha.trans (ajF ((Sg hE).2 had))
 ·intro hc;have step:∀y z,y∈v::f.vs->ad E y z->z∈v::f.vs:=by
   intro y z hy hz;rw [aY] at hy;rcases hy with rfl|hy
   ·have:=Si hE hz;exact dQ _ (aa8 f ((h.rt.2 z).2 ⟨by omega,.inr hz⟩))
   ·rcases GK f v h.gf y hy z (.inr hz) with h|h
    ·exact dQ _ h
    ·rw [h];exact dW ..
  induction hc with
  | refl=>exact dW ..
  | fwd _ he ih=>exact step _ _ ih (.inl he)
  | bwd _ he ih=>exact step _ _ ih (.inr he)
theorem GT.bridge {p w:Int} (hp:(p,w)∈f.pr v):¬Con (mE E (ed p w)) w p:=by
 obtain ⟨c,c1,c2,c3⟩:=ajI f v h.nd h.gf hp;intro hc;apply c3;have step:∀y z,y∈w::c.vs->ad E y z->ed y z≠ed p w->z∈w::c.vs:=by
  intro y z hy hz aX;rw [aY] at hy;rcases hy with rfl|hy
  ·refine dQ _ (aa8 c ((c1.2 z).2 ⟨?_,.inr hz⟩));rintro rfl;exact aX (zF _ _)
  ·rcases GK c w c2 y hy z (.inr hz) with h|h
   ·exact dQ _ h
   ·rw [h];exact dW ..
 have all:∀x,Con (mE E (ed p w)) w x->x∈w::c.vs:=by
  intro x hc;induction hc with
  | refl=>exact dW ..
  | fwd _ he ih=>
   obtain ⟨h1,h2⟩:=mV.1 he;have:=CX (hE _ h1);refine step _ _ ih (.inl h1) ?_;unfold ed at h2 ⊢;rw [if_pos this.2.1];exact h2
  | bwd _ he ih=>
   obtain ⟨h1,h2⟩:=mV.1 he;have:=CX (hE _ h1);refine step _ _ ih (.inr h1) ?_;rw [zF];unfold ed at h2 ⊢;rw [if_pos this.2.1];exact h2
 exact all p hc
theorem GT.edge {a b:Int} (ha:a∈v::f.vs) (d9:ad E a b):(a,b)∈f.pr v\/(b,a)∈f.pr v:=by
 rw [aY] at ha;rcases ha with rfl|ha
 ·have:=Si hE d9;exact .inl (ajH f a ((h.rt.2 b).2 ⟨by omega,.inr d9⟩))
 ·exact acG f v h.gf a ha b (.inr d9)
omit hE in
theorem GT.trok (dO:n<=12):TrOk v f:=⟨h.nd,fun x hx=>by have:=h.rg x hx;omega⟩
end
theorem alX {n:Nat} {E:aa Ed} (hE:∀e,e∈E->eF n e=true) (h:∀e,e∈E->∃v f,GT n E v f/\e.1∈v::f.vs):NoCyc E:=by
 rintro ⟨a,b⟩ he hc;obtain ⟨v,f,hg,ha⟩:=h _ he;have bR:=CX (hE _ he);simp only at hc ha bR;have h1:ed a b=(a,b):=by unfold ed;rw [if_pos bR.2.1]
 rcases hg.edge hE ha (.inl he) with h|h
 ·refine hg.bridge hE h ?_;rw [h1];exact hc.symm
 ·refine hg.bridge hE h ?_;rw [zF,h1];exact hc
structure FoOk (n:Nat) (E:List Ed) (Fs:List (Int × FT)):Prop where
 gt:∀p,p∈Fs->GT n E p.1 p.2
 mn:∀p,p∈Fs->∀x,x∈p.1::p.2.vs->p.1<=x
 so:Fs.Pairwise (fun p q=>p.1<q.1)
 cv:∀x:Int,0<=x->x<n->∃p,p∈Fs/\x∈p.1::p.2.vs
def xW (Fs:aa (Int × FT)):aa (aa Int):=Fs.map fun p=>tr p.1 p.2
theorem wu {Fs:aa (Int × FT)} {i:Nat} {p:Int × FT} (h:Fs[i]?=some p):(xW Fs)[i]?=some (tr p.1 p.2):=by
 unfold xW;rw [kE,h];rfl
theorem Df (Fs:aa (Int × FT)):(xW Fs).length=Fs.length:=by unfold xW;rw [dX]
section
variable {n:Nat} {E:aa Ed} (hE:∀e,e∈E->eF n e=true) {Fs:aa (Int × FT)} (h:FoOk n E Fs)
include hE h
theorem FoOk.nocyc:NoCyc E:=alX hE fun e he=>by
 have:=CX (hE e he)
 obtain ⟨p,h1,h2⟩:=h.cv e.1 (by omega) (by omega)
 exact ⟨p.1,p.2,h.gt p h1,h2⟩
theorem FoOk.same {p q:Int × FT} (hp:p∈Fs) (hq:q∈Fs) {x y:Int} (hx:x∈p.1::p.2.vs) (hy:y∈q.1::q.2.vs) (hc:Con E x y):p.1=q.1:=by
 have c1:=((h.gt p hp).con hE x).1 hx;have c2:=((h.gt q hq).con hE y).1 hy;have c3:Con E p.1 q.1:=(c1.trans hc).trans c2.symm;have l1:=h.mn p hp q.1 (((h.gt p hp).con hE _).2 c3);have l2:=h.mn q hq p.1 (((h.gt q hq).con hE _).2 c3.symm);omega
theorem FoOk.idx {i j:Nat} {p q:Int × FT} (hp:Fs[i]?=some p) (hq:Fs[j]?=some q) {x y:Int} (hx:x∈p.1::p.2.vs) (hy:y∈q.1::q.2.vs) (hc:Con E x y):i=j:=by
 have h0:=h.same hE (eY hp) (eY hq) hx hy hc;obtain ⟨hi,rfl⟩:=aZ hp;obtain ⟨hj,rfl⟩:=aZ hq;by_cases h1:i<j
 ·have:=Rj.1 h.so i j hi hj h1;omega
 ·by_cases h2:j<i
  ·have:=Rj.1 h.so j i hj hi h2;omega
  ·omega
omit hE in
theorem FoOk.size:Fs.length<=n:=by
 have:=vK n (Fs.map (·.1)) (by
  have:(Fs.map (·.1)).Pairwise (· < ·):=by rw [List.pairwise_map];exact h.so
  exact this.imp fun h=>by omega) (fun x hx=>by
  obtain ⟨p,hp,rfl⟩:=bX.1 hx
  exact (h.gt p hp).rg _ (dW ..))
 rwa [dX] at this
end
theorem Aq {n:Nat} (L:aa aC) (k:Int) (h1:1<=n) (h2:n<=12) (hL:L.length<=1048576) (hE:∀e,e∈aM L k->eF n e=true) :
  ∃r b,qy (((n:Int),L),k)=some ((r.1,r.2,b),())/\(b=true↔NoCyc (aM L k))/\(b=true->∃Fs,r=((n:Int),xW Fs)/\FoOk n (aM L k) Fs):=by
 have hm:maxLen=9223372036854775807:=by decide
 have Ce:=acF L k;show ∃r b,Ia BIG _=_/\_;rw [akX,aa9 _ _ _ hL,af,dH,show aW (n:Int) 1 12=true from aV.2 (by omega),af];simp only [bB,ax];generalize hEE:aM L k=E at hE Ce ⊢;refine dV (x:=(((0:Int),[]),((n:Int),[]),[],(0:Int))) (P:=fun o=>∃(r:Int × aa (aa Int)) (b:Bool),o=some ((r.1,r.2,b),())/\(b=true↔NoCyc E)/\(b=true->∃Fs,r=((n:Int),xW Fs)/\FoOk n E Fs))
  (fun (s:(Int × aa (aa Int)) × (Int × aa (aa Int)) × aa Int × Int)=>∃(i:Nat) (Fs:aa (Int × FT)),s.2.2.2=(i:Int)/\i<=n/\s.2.1=((n:Int),xW Fs)/\(∀x,x∈s.2.2.1↔∃p,p∈Fs/\x∈p.1::p.2.vs)/\(∀p,p∈Fs->GT n E p.1 p.2/\p.1<i)/\(∀p,p∈Fs->∀x,x∈p.1::p.2.vs->p.1<=x)/\Fs.Pairwise (fun p q=>p.1<q.1)/\(∀x:Int,0<=x->x<i->∃p,p∈Fs/\x∈p.1::p.2.vs)/\Fs.length<=i/\s.2.2.1.length<=25*i)
  (fun s=>n-s.2.2.2.toNat) (fun _ (b:((Int × aa (aa Int)) × (Int × aa (aa Int))) ⊕ ((Int × aa (aa Int)) × Bool))=>(∃d Fs,b = .inl (d,((n:Int),xW Fs))/\FoOk n E Fs)\/(∃r,b = .inr (r,false)/\¬NoCyc E)) (by simp [BIG];omega)
  ⟨0,[],rfl,by omega,rfl,by simp,by simp,by simp,by simp,fun x h1 h2=>by omega,by simp,by simp⟩ (fun self s hx hs => ?_) (fun b hb => ?_)
 ·obtain ⟨dm,fo,dn,j⟩:=s;obtain ⟨i,Fs,k1,k2,k3,k4,k5,k6,k7,k8,k9,k10⟩:=hx;simp only at k1 k2 k3 k4 k5 k6 k7 k8 k9 k10 hs ⊢;subst k1 k3;by_cases hi:i<n
  ·simp only [show ((i:Int)<(n:Int)) from by omega,decide_true,ai];rw [zG dn i (by omega),af];by_cases bn:(i:Int)∈dn
   ·simp only [ak bn,ai,af];rw [bT (by omega)];refine hs _ ⟨i+1,Fs,rfl,by omega,rfl,k4,fun p hp=>⟨(k5 p hp).1,by have:=(k5 p hp).2;omega⟩,k6,k7,fun x x1 x2 => ?_,by omega,by simp only;omega⟩ (by simp;omega);by_cases hx:x=(i:Int)
    ·subst hx;exact (k4 _).1 bn
    ·exact k8 x x1 (by omega)
   ·simp only [az bn,ax];obtain ⟨t,b,t1,t2,t3⟩:=aqQ hE h1 h2 (by omega) (i:Int) (by omega);rw [t1,af];cases b with
    | false=>
     simp only [gW,ai,af];refine ⟨_,rfl,.inr ⟨_,rfl,fun hN => ?_⟩⟩;have:=t3 hN;cases this
    | true=>
     obtain ⟨f,rfl,hg⟩:=t2 rfl;have Cc:f.vs.length<=11:=(hg.trok h2).len;simp only [bB,ax];rw [ak (by simp only [Df,bF,bQ];omega),ai,ak (by rw [xS];omega),ai,af];simp only;rw [bT (by omega)];have I4:∀q,q∈Fs++[((i:Int),f)]↔q∈Fs\/q=((i:Int),f):=fun q=>by rw [bG,cK]
     refine hs _ ⟨i+1,Fs++[((i:Int),f)],rfl,by omega,by simp [xW],fun x => ?_,fun p hp => ?_,fun p hp => ?_,?_,fun x x1 x2 => ?_,by simp only [dP,bF,bQ];omega,by simp only [dP,xS];omega⟩ (by simp;omega)
     ·simp only [bG];rw [k4,xU];constructor
      ·rintro (⟨p,p1,p2⟩|h)
       ·exact ⟨p,.inl p1,p2⟩
       ·exact ⟨_,.inr (cK.2 rfl),h⟩
      ·rintro ⟨p,p1|p1,p2⟩
       ·exact .inl ⟨p,p1,p2⟩
       ·rw [cK] at p1;subst p1;exact .inr p2
     ·rcases (I4 p).1 hp with hp|rfl
      ·exact ⟨(k5 p hp).1,by have:=(k5 p hp).2;omega⟩
      ·exact ⟨hg,by simp only;omega⟩
     ·rcases (I4 p).1 hp with hp|rfl
      ·exact k6 p hp
      ·intro x hx;simp only at hx ⊢;apply yM;intro bR;obtain ⟨q,q1,q2⟩:=k8 x (hg.rg x hx).1 (by omega);have c1:=((k5 q q1).1.con hE x).1 q2;have c2:=(hg.con hE x).1 hx;exact bn ((k4 _).2 ⟨q,q1,((k5 q q1).1.con hE _).2 (c1.trans c2.symm)⟩)
     ·rw [List.pairwise_append];refine ⟨k7,by simp,fun a ha b hb => ?_⟩;rw [cK] at hb;subst hb;exact (k5 a ha).2
     ·by_cases hx:x=(i:Int)
      ·subst hx;exact ⟨_,(I4 _).2 (.inr rfl),dW ..⟩
      ·obtain ⟨q,q1,q2⟩:=k8 x x1 (by omega);exact ⟨q,(I4 q).2 (.inl q1),q2⟩
  ·simp only [show ¬((i:Int)<(n:Int)) from by omega,decide_false,ax];have:i=n:=by omega
   subst this;exact ⟨_,rfl,.inl ⟨_,Fs,rfl,fun p hp=>(k5 p hp).1,k6,k7,k8⟩⟩
 ·rcases hb with ⟨d,Fs,rfl,hF⟩|⟨r,rfl,hN⟩
  ·exact ⟨((n:Int),xW Fs),true,rfl,⟨fun _=>hF.nocyc hE,fun _=>rfl⟩,fun _=>⟨Fs,rfl,hF⟩⟩
  ·exact ⟨r,false,rfl,⟨(fun h=>by cases h),fun h=>absurd h hN⟩,(fun h=>by cases h)⟩
theorem aBz {V:aa Int} {x:Int} (hs:V.Pairwise (· < ·)) (hx:x∈V) (hm:∀y,y∈V->x<=y):V[0]?=some x:=by
 cases V with
 | nil=>cases hx
 | cons y V=>
  rw [List.pairwise_cons] at hs;rw [aY] at hx;have h1:=hm y (dW ..);rcases hx with rfl|hx
  ·rfl
  ·have:=hs.1 x hx;omega
section
variable {n:Nat} {E:aa Ed} (hE:∀e,e∈E->eF n e=true) {Fs:aa (Int × FT)} (h:FoOk n E Fs) (dO:n<=12)
include h dO
theorem FoOk.verts {p:Int × FT} (hp:p∈Fs):∃V,kH (tr p.1 p.2)=some (V,())/\V.Pairwise (· < ·)/\(∀x,x∈V↔x∈p.1::p.2.vs)/\V.length=(p.1::p.2.vs).length/\V[0]?=some p.1/\V.length<=12:=by
 have hg:=h.gt p hp;have hl:=(hg.trok dO).len;obtain ⟨V,v1,v2,v3,v4⟩:=aqP (tr p.1 p.2) (fun x hx=>(hg.trok dO).rg x ((xU _ _ _).1 hx)) (by rw [xS];omega);have v5:∀x,x∈V↔x∈p.1::p.2.vs:=fun x=>by rw [v3,xU]
 have vn:V.Nodup:=v2.imp fun h=>by omega
 have l1:=mi V (p.1::p.2.vs) vn fun x hx=>(v5 x).1 hx
 have l2:=mi (p.1::p.2.vs) V hg.nd fun x hx=>(v5 x).2 hx
 exact ⟨V,v1,v2,v5,by omega,aBz v2 ((v5 _).2 (dW ..)) fun y hy=>h.mn p hp y ((v5 y).1 hy),v4⟩
include hE
theorem alY (h1:1<=n):Ic ((n:Int),xW Fs)=some (true,()):=by
 have hm:maxLen=9223372036854775807:=by decide
 have dF:=h.size;have htl:=Df Fs;show Ib BIG _=_;rw [ak0,dH,show aW (n:Int) 1 12=true from aV.2 (by omega),af];simp only [bB,ax];rw [az (by omega),af];simp only [ax];refine dV (x:=((0:Int),(0:Int))) (P:=fun o=>o=some (true,())) (fun (s:Int × Int)=>∃(i:Nat) (acc:aa Int),s.2=(i:Int)/\i<=Fs.length/\s.1=(acc.length:Int)/\acc.Nodup/\(∀x,x∈acc↔∃j:Nat,j<i/\∃p,Fs[j]?=some p/\x∈p.1::p.2.vs))
  (fun s=>Fs.length-s.2.toNat) (fun _ (b:Int ⊕ Bool)=>b = .inl (n:Int)) (by simp [BIG];omega) ⟨0,[],rfl,by omega,rfl,by simp,fun x=>by simp⟩ (fun self s hx hs => ?_) (fun b hb=>by subst hb;simp)
 obtain ⟨al,jj⟩:=s;obtain ⟨i,acc,k1,k2,k3,k4,k5⟩:=hx;simp only at k1 k2 k3 k4 k5 hs ⊢;subst k1 k3;have aFP:∀x,x∈acc->0<=x/\x<n:=fun x hx=>by
  obtain ⟨j,_,p,h2,h3⟩:=(k5 x).1 hx;exact (h.gt p (eY h2)).rg x h3
 have Bp:=vK n acc k4 aFP;by_cases hi:i<Fs.length
 ·have hp:=aR hi;generalize hpe:Fs[i]=p at hp;have kC:=eY hp;have hg:=h.gt p kC;obtain ⟨V,v1,v2,v3,v4,v5,v6⟩:=h.verts dO kC;have hV0:0<V.length:=by rw [v4];simp
  have bi:∀{B:Type} {k:Nat->ah B},bnd (xW Fs).length (i:Int) k=k i:=fun {B k}=>aF (by omega)
  have hti:=wu hp;simp only [show ((i:Int)<((xW Fs).length:Int)) from by omega,decide_true,ai,bi,hti,af,auv (hg.trok dO),bB,ax,v1];have hwl:IntKind.wrap .i64 ((V.length:Int)-1)=((V.length-1:Nat):Int):=by rw [wr (by omega) (by omega)];omega
  have ags:V[V.length-1]?=some V[V.length-1]:=aR (by omega);have hlr:=hg.rg _ ((v3 _).1 (nH (show V.length-1<V.length by omega)));rw [hwl,aF (by omega),ags,af,az (by omega),ax];have agp:(bif decide ((0:Int)<(i:Int)) then
    bnd (xW Fs).length (IntKind.wrap .i64 ((i:Int)-(1:Int))) fun n12=>
    Option.bind (xW Fs)[n12]? fun y13=>
    Option.bind (kH y13) fun r14=>
    bnd r14.1.length (0:Int) fun n15=>
    Option.bind r14.1[n15]? fun y16=>
    bnd V.length (0:Int) fun n17=>
    Option.bind V[n17]? fun y18=>
    some (decide (y18<=y16))
    else some false)=some false:=by
   by_cases h0:0<i
   ·have hw:IntKind.wrap .i64 ((i:Int)-1)=((i-1:Nat):Int):=by rw [wr (by omega) (by omega)];omega
    have hq:=aR (show i-1<Fs.length by omega);generalize hqe:Fs[i-1]=q at hq;obtain ⟨W,w1,w2,w3,w4,w5,w6⟩:=h.verts dO (eY hq);have hW0:0<W.length:=by rw [w4];simp
    have bR:=Rj.1 h.so (i-1) i (by omega) hi (by omega);rw [hqe,hpe] at bR;rw [ak (by omega),ai,hw,aF (by omega),wu hq,af,w1,af,bV (by omega) (by simp only;omega)];simp only;rw [show Int.toNat 0=0 from rfl,w5,af,bV (by omega) (by omega),show Int.toNat 0=0 from rfl,v5,af,az (by omega)]
   ·rw [az (by omega),ax]
  rw [agp,af,ax];refine dV (x:=(0:Int)) (P:=fun o=>∃b:Int ⊕ Bool,o=some b/\b = .inl (n:Int)) (fun (s:Int)=>∃j:Nat,s=(j:Int)/\j<=i) (fun s=>i-s.toNat) (fun _ (b:Int ⊕ Bool)=>b = .inl (((acc++(p.1::p.2.vs)).length:Nat):Int)) (by simp [BIG];omega) ⟨0,rfl,by omega⟩ (fun self2 s Re Fy => ?_) (fun b hb => ?_)
  ·obtain ⟨j,rfl,hj⟩:=Re;by_cases ik:j<i
   ·have hq:=aR (show j<Fs.length by omega);generalize hqe:Fs[j]=q at hq;have htj:=wu hq;have bj:∀{B:Type} {k:Nat->ah B},bnd (xW Fs).length (j:Int) k=k j:=fun {B k}=>aF (by omega)
    have hql:=((h.gt q (eY hq)).trok dO).len;simp only [show ((j:Int)<(i:Int)) from by omega,decide_true,ai,bj,htj,af];rw [xV V (by omega) (fun y=>decide (y∈tr q.1 q.2)) false (fun self3 m y hy => ?_) (fun self3=>by simp)]
    ·have eD:V.any (fun y=>decide (y∈tr q.1 q.2))=false:=by
      rw [List.any_eq_false];intro y hy;rw [decide_eq_true_eq,xU];intro hy2;have:=h.idx hE hq hp hy2 ((v3 y).1 hy) (.refl _);omega
     rw [eD];simp only [iK,if_false,af];rw [bT (by omega)];exact Fy _ ⟨j+1,rfl,by omega⟩ (by simp;omega)
    ·have Nu:=(aZ hy).1;simp only [show ((m:Int)<(V.length:Int)) from by omega,decide_true,ai];rw [aF Nu,hy,af,zG _ _ (by rw [xS];omega),af,bT (by omega)];by_cases ql:y∈tr q.1 q.2<;>simp [ql]
   ·simp only [show ¬((j:Int)<(i:Int)) from by omega,decide_false,ax];refine ⟨_,rfl,?_⟩;rw [wr (by omega) (by omega),dP,<-v4];rfl
  ·subst hb;simp only;rw [bT (by omega)];refine hs _ ⟨i+1,acc++(p.1::p.2.vs),rfl,hi,rfl,?_,fun x => ?_⟩ (by simp;omega)
   ·rw [Rq];refine ⟨k4,hg.nd,fun a ha b hb d9 => ?_⟩;subst d9;obtain ⟨j,j1,q,q1,q2⟩:=(k5 a).1 ha;have:=h.idx hE q1 hp q2 hb (.refl _);omega
   ·rw [bG,k5];constructor
    ·rintro (⟨j,j1,j2⟩|hx)
     ·exact ⟨j,by omega,j2⟩
     ·exact ⟨i,by omega,p,hp,hx⟩
    ·rintro ⟨j,j1,q,q1,q2⟩;by_cases ik:j=i
     ·subst ik;rw [hp] at q1;cases q1;exact .inr q2
     ·exact .inl ⟨j,by omega,q,q1,q2⟩
 ·simp only [show ¬((i:Int)<((xW Fs).length:Int)) from by omega,decide_false,ax];refine ⟨_,rfl,?_⟩;have bn:i=Fs.length:=by omega
  subst bn;have J2:=mi ((List.range n).map fun (x:Nat)=>(x:Int)) acc (Xi _ _ List.nodup_range fun a _ b _ h=>by omega) fun x hx=>by
   obtain ⟨y,hy,rfl⟩:=bX.1 hx;rw [iY] at hy;obtain ⟨p,p1,p2⟩:=h.cv (y:Int) (by omega) (by omega);obtain ⟨j,hj,hjp⟩:=FI.1 p1;exact (k5 _).2 ⟨j,hj,p,by rw [aR hj,hjp],p2⟩
  rw [dX,sJ] at J2;rw [show acc.length=n from by omega]
theorem sw (h1:1<=n) (x:Int) (h0:0<=x) (hx:x<n):∃(j:Nat) (p:Int × FT),Fs[j]?=some p/\x∈p.1::p.2.vs/\nW (((n:Int),xW Fs),x)=some ((j:Int),()):=by
 have hm:maxLen=9223372036854775807:=by decide
 have dF:=h.size;have htl:=Df Fs;show ∃(j:Nat) (p:Int × FT),_/\_/\O1 BIG _=_;rw [ath,alY hE h dO h1,af];simp only [bB,ax];refine dV (x:=(0:Int)) (P:=fun o=>∃(j:Nat) (p:Int × FT),Fs[j]?=some p/\x∈p.1::p.2.vs/\o=some ((j:Int),())) (fun (s:Int)=>∃i:Nat,s=(i:Int)/\i<=Fs.length/\∀j p,j<i->Fs[j]?=some p->x∉p.1::p.2.vs) (fun s=>Fs.length-s.toNat)
  (fun _ (b:Unit ⊕ Int)=>∃(j:Nat) (p:Int × FT),Fs[j]?=some p/\x∈p.1::p.2.vs/\b = .inr (j:Int)) (by simp [BIG];omega) ⟨0,rfl,by omega,fun j p hj=>by omega⟩ (fun self s Ca hs => ?_) (fun b hb => ?_)
 ·obtain ⟨i,rfl,k2,k3⟩:=Ca;by_cases hi:i<Fs.length
  ·have hp:=aR hi;generalize hpe:Fs[i]=p at hp;have hl:=((h.gt p (eY hp)).trok dO).len;simp only [show ((i:Int)<((xW Fs).length:Int)) from by omega,decide_true,ai];rw [aF (by omega),wu hp,af,zG _ _ (by rw [xS];omega),af,bT (by omega)];by_cases bn:x∈tr p.1 p.2
   ·simp only [ak bn,ai];exact ⟨_,rfl,i,p,hp,(xU _ _ _).1 bn,rfl⟩
   ·simp only [az bn,ax];refine hs _ ⟨i+1,rfl,hi,fun j q hj hq => ?_⟩ (by simp;omega);by_cases ik:j=i
    ·subst ik;rw [hp] at hq;cases hq;rw [<-xU];exact bn
    ·exact k3 j q (by omega) hq
  ·exfalso;obtain ⟨p,p1,p2⟩:=h.cv x h0 hx;obtain ⟨j,hj,hjp⟩:=FI.1 p1;exact k3 j p (by omega) (by rw [aR hj,hjp]) p2
 ·obtain ⟨j,p,h1,h2,rfl⟩:=hb;exact ⟨j,p,h1,h2,rfl⟩
end
def gE (L:aa aC):aa Ed:=L.map fun x=>(x.1,x.2.1)
def qc (L:aa aC):aa Ed:=(L.filter fun x=>x.2.2.2).map fun x=>(x.1,x.2.1)
def bA (n:Nat) (L:aa aC) (k:Int) (v:Int):Int:=(labs n (aM L k)).getD v.toNat 0
def cmp (n:Nat) (L:aa aC) (k:Int) (v:Int):Nat:=(labs n (aM L k)).count (bA n L k v)
structure WOk (n:Nat) (L:List aC):Prop where
 gr:jT n (gE L)=true
 lv:∀x,x∈L->0<=x.2.2.1/\x.2.2.1<=4
 nc:NoCyc (aM L 0)
 un:∀x,x∈L->x.2.2.2=false->bA n L x.2.2.1 x.1=bA n L x.2.2.1 x.2.1
 sz:∀k:Nat,1<=k->k<=4->∀e,e∈aM L k->cmp n L k e.1<=n / 2 ^ k
theorem Sl (L:aa aC) (k:Int):(aM L k).Sublist (gE L):=List.Sublist.map _ XD
theorem acH (L:aa aC):(qc L).Sublist (gE L):=List.Sublist.map _ XD
theorem vL {L:aa aC} {j k:Int} (h:j<=k):∀e,e∈aM L k->e∈aM L j:=by
 intro e he;unfold aM at he ⊢;rw [bX] at he ⊢;obtain ⟨x,h1,h2⟩:=he;refine ⟨x,?_,h2⟩;simp only [jK,aU,decide_eq_true_eq] at h1 ⊢;exact ⟨h1.1,h1.2.1,by omega⟩
theorem aqS {L:aa aC} (h:∀x,x∈L->0<=x.2.2.1/\x.2.2.1<=4):qc L=aM L 0:=by
 unfold qc aM;congr 1;apply List.filter_congr;intro x hx;rw [ak (h x hx).1,wE]
section
variable {n:Nat} {L:aa aC} (hg:jT n (gE L)=true)
include hg
theorem zI:1<=n/\n<=12:=by
 unfold jT at hg;rw [aU,aV] at hg;omega
theorem jY:(∀e,e∈gE L->eF n e=true)/\(gE L).Nodup/\L.length<=66:=by
 unfold jT at hg;rw [aU] at hg;obtain ⟨h1,h2,h3⟩:=lc hg.2;refine ⟨h1,h2.imp fun {a b} h => ?_,by unfold gE at h3;rwa [dX] at h3⟩;rintro rfl;unfold lsB at h;simp at h
theorem GL (k:Int):(∀e,e∈aM L k->eF n e=true)/\(aM L k).Nodup/\(aM L k).length<=66:=by
 obtain ⟨h1,h2,h3⟩:=jY hg;refine ⟨fun e he=>h1 e ((Sl L k).subset he),h2.sublist (Sl L k),?_⟩;have:=(Sl L k).length_le;unfold gE at this;rw [dX] at this;omega
theorem jA (k:Int):oN n (aM L k):=fun e he=>by
 have:=fK ((GL hg k).1 e he)
 exact ⟨this.1,this.2.1,this.2.2.1,this.2.2.2.1⟩
theorem lg (k:Int) {u v:Int} (hu:0<=u/\u<n) (hv:0<=v/\v<n):bA n L k u=bA n L k v↔Con (aM L k) u v:=by
 have hl:=kZ (jA hg k);have:=hl.iff (getD_at (show u.toNat<(labs n (aM L k)).length by rw [dU];omega)) (getD_at (show v.toNat<(labs n (aM L k)).length by rw [dU];omega));rw [jF hu.1,jF hv.1] at this;exact this
end
theorem afk (n:Int) (L:aa aC) (k:Int) (hL:L.length<=1048576):Gw ((n,L),k)=some (aM L k,()):=by
 rw [<-aa9 n L k hL];show Qj BIG _=CB BIG _;rw [atO,Zp];all_goals rfl
theorem ajJ (n:Int) (L:aa aC) (hL:L.length<=1048576):EJ (n,L)=some (qc L,()):=by
 have hm:maxLen=9223372036854775807:=by decide
 have cZ:∀L:aa aC,(qc L).length<=L.length:=fun L=>by
  unfold qc;rw [dX];exact qM _ _
 show EH BIG _=_;rw [aiN];refine dV (x:=([],(0:Int))) (P:=fun o=>o=some (qc L,())) (fun (s:aa Ed × Int)=>∃i:Nat,s.2=i/\i<=L.length/\s.1=qc (L.take i)) (fun s=>L.length-s.2.toNat)
  (fun _ (V:aa Ed)=>V=qc L) (by simp [BIG];omega) ⟨0,rfl,by omega,rfl⟩ (fun self s hx hs => ?_) (fun V hV=>by rw [hV])
 obtain ⟨s,j⟩:=s;obtain ⟨i,h1,h2,h3⟩:=hx;simp only at h1 h2 h3 hs ⊢;subst h1;by_cases hi:i<L.length
 ·have aB3:=cZ (L.take i);rw [iy] at aB3;simp only [show ((i:Int)<(L.length:Int)) from by omega,decide_true,ai];rw [aF hi,aR hi,af,bT (by omega)];have hn:qc (L.take (i+1))=qc (L.take i)++(if L[i].2.2.2=true then [(L[i].1,L[i].2.1)] else []):=by
   unfold qc;rw [rC hi,Ro,uH];congr 1;by_cases h1:L[i].2.2.2=true<;>simp [h1]
  cases ht:L[i].2.2.2 with
  | false=>
   rw [ax,af];exact hs _ ⟨i+1,rfl,hi,by simp only;rw [hn,if_neg (by rw [ht];simp),m_,h3]⟩ (by simp;omega)
  | true=>
   rw [ai,ak (by rw [h3];simp only [bF,bQ];omega),ai,af];exact hs _ ⟨i+1,rfl,hi,by simp only;rw [hn,if_pos ht,h3]⟩ (by simp;omega)
 ·simp only [show ¬((i:Int)<(L.length:Int)) from by omega,decide_false,ax];have:i=L.length:=by omega
  subst this;exact ⟨_,rfl,by rw [h3,ow]⟩
theorem uC {n:Nat} (L:aa aC) (k:Int) (dO:n<=12) (hL:L.length<=1048576) (hE:oN n (aM L k)):og (((n:Int),L),k)=some (labs n (aM L k),()):=by
 have hm:maxLen=9223372036854775807:=by decide
 have Ce:=acF L k;show IP BIG _=_;rw [alF,Mh n (by omega),af,afk _ _ _ hL,af];generalize aM L k=E at hE Ce ⊢;refine dV (x:=(pU n,(0:Int))) (P:=fun o=>o=some (labs n E,())) (fun (s:aa Int × Int)=>∃i:Nat,s.2=i/\i<=E.length/\s.1=labs n (E.take i)) (fun s=>E.length-s.2.toNat)
  (fun _ (V:aa Int)=>V=labs n E) (by simp [BIG];omega) ⟨0,rfl,by omega,rfl⟩ (fun self s hx hs => ?_) (fun V hV=>by rw [hV])
 obtain ⟨s,j⟩:=s;obtain ⟨i,h1,h2,h3⟩:=hx;simp only at h1 h2 h3 hs ⊢;subst h1 h3;by_cases hi:i<E.length
 ·have he:=hE _ (nH hi);have hll:=dU n (E.take i);simp only [show ((i:Int)<(E.length:Int)) from by omega,decide_true,ai];rw [aF hi,aR hi,af,Mi _ _ _ he.1 (by omega) he.2.2.1 (by omega) (by omega),af,bT (by omega)];refine hs _ ⟨i+1,rfl,hi,?_⟩ (by simp;omega);simp only;unfold labs;rw [rC hi,pF];rfl
 ·simp only [show ¬((i:Int)<(E.length:Int)) from by omega,decide_false,ax];have:i=E.length:=by omega
  subst this;exact ⟨_,rfl,by rw [ow]⟩
theorem Xj (l:aa Int) (c:Int) (hl:l.length<=1048576):EL (l,c)=some ((l.count c:Int),()):=by
 have hm:maxLen=9223372036854775807:=by decide
 show WW BIG _=_;rw [awj];refine dV (x:=((0:Int),(0:Int))) (P:=fun o=>o=some ((l.count c:Int),())) (fun (s:Int × Int)=>∃i:Nat,s.2=i/\i<=l.length/\s.1=((l.take i).count c:Int)) (fun s=>l.length-s.2.toNat)
  (fun _ (V:Int)=>V=(l.count c:Int)) (by simp [BIG];omega) ⟨0,rfl,by omega,by simp⟩ (fun self s hx hs => ?_) (fun V hV=>by rw [hV])
 obtain ⟨s,j⟩:=s;obtain ⟨i,h1,h2,h3⟩:=hx;simp only at h1 h2 h3 hs ⊢;subst h1 h3;by_cases hi:i<l.length
 ·have hc:(l.take i).count c<=(l.take i).length:=List.count_le_length;rw [iy] at hc;simp only [show ((i:Int)<(l.length:Int)) from by omega,decide_true,ai];rw [aF hi,aR hi,af];have hn:(l.take (i+1)).count c=(l.take i).count c+(if l[i]=c then 1 else 0):=by
   rw [rC hi,List.count_append,List.count_singleton];by_cases h:l[i]=c<;>simp [h]
  by_cases h:l[i]=c
  ·rw [ak h,ai,bT (i:=List.count c (List.take i l)) (by omega),af,bT (i:=i) (by omega)];exact hs _ ⟨i+1,rfl,hi,by simp only;rw [hn,if_pos h]⟩ (by simp;omega)
  ·rw [az h,ax,af,bT (i:=i) (by omega)];exact hs _ ⟨i+1,rfl,hi,by simp only;rw [hn,if_neg h,pY]⟩ (by simp;omega)
 ·simp only [show ¬((i:Int)<(l.length:Int)) from by omega,decide_false,ax];have:i=l.length:=by omega
  subst this;exact ⟨_,rfl,by rw [ow]⟩
section
variable {n:Nat} {L:aa aC} (hg:jT n (gE L)=true)
include hg
theorem aqT (k:Nat) (hk:k<=4):LP (((n:Int),L),(k:Int))=some (decide (∀e,e∈aM L k->cmp n L k e.1<=n / 2 ^ k),()):=by
 have hm:maxLen=9223372036854775807:=by decide
 obtain ⟨h1,dO⟩:=zI hg;obtain ⟨_,_,hL⟩:=jY hg;obtain ⟨hE,hEn,hEl⟩:=GL hg k;have hll:=dU n (aM L k);show LM BIG _=_;rw [aqp,uC L k dO (by omega) (jA hg k),af,afk _ _ _ (by omega),af];simp only;rw [xV (aM L k) (by omega) (fun e=>decide (n / 2 ^ k<cmp n L k e.1)) false (fun self i y hy => ?_) (fun self=>by simp)]
 ·by_cases h:∀e,e∈aM L k->cmp n L k e.1<=n / 2 ^ k
  ·rw [ak h,if_neg]
   ·rfl
   ·intro h';obtain ⟨y,hy,hp⟩:=nI.1 h';rw [decide_eq_true_eq] at hp;have:=h y hy;omega
  ·rw [az h,if_pos]
   ·rfl
   ·apply yM;intro eD;refine h fun e he => ?_
    apply yM;intro bR;exact eD (nI.2 ⟨e,he,by rw [decide_eq_true_eq];omega⟩)
 ·have hi:=(aZ hy).1;have he:=fK (hE y (eY hy));simp only [show ((i:Int)<((aM L k).length:Int)) from by omega,decide_true,ai];rw [aF hi,hy,af,bV he.1 (by omega),getD_at (by omega),af,Xj _ _ (by omega),af,az (by omega),ax,bT (by omega)];have h64:Nat.min (Int.toNat (k:Int)) (IntKind.bits .i64)=k:=by
   rw [il];exact Nat.min_eq_left (by show k<=64;omega)
  have awV:Int.fdiv (n:Int) (2 ^ (Nat.min (Int.toNat (k:Int)) (IntKind.bits .i64)))=((n / 2 ^ k:Nat):Int):=by
   rw [h64,Int.fdiv_eq_ediv_of_nonneg _ (by exact_mod_cast Ay (2 ^ k))];simp
  rw [awV];show (bif decide (((n / 2 ^ k:Nat):Int)<(cmp n L k y.1:Int)) then _ else _)=_;by_cases hc:n / 2 ^ k<cmp n L k y.1
  ·rw [ak (by omega),ak hc];rfl
  ·rw [az (by omega),az hc];rfl
end
theorem Fe (n:Int) (L:aa aC) (hL:L.length<=1048576):∃b,zD (n,L)=some (b,())/\(b=true↔0<=n/\WOk n.toNat L):=by
 have hm:maxLen=9223372036854775807:=by decide
 show ∃b,WY BIG _=_/\_;have hG:lV (n,L)=some ((n,gE L),()):=CV n L hL;rw [awl,hG,af,aaZ _ _ (by unfold gE;rw [dX];exact hL),af];by_cases hg:jT n (gE L)=true;case neg=>
  rw [show jT n (gE L)=false by simpa using hg];simp only [gW,ai,af];refine ⟨false,rfl,⟨(fun h=>by cases h),fun ⟨h1,h2⟩ => ?_⟩⟩;have:=h2.gr;rw [jF h1] at this;exact absurd this hg
 obtain ⟨m,rfl⟩:∃m:Nat,n=(m:Int):=by
  have:1<=n:=by
   have h:=hg;unfold jT at h;rw [aU,aV] at h;omega
  exact ⟨n.toNat,by omega⟩
 rw [hg,il];obtain ⟨h1,dO⟩:=zI hg;obtain ⟨mD,VH,Rf⟩:=jY hg;simp only [bB,ax];rw [ajJ _ _ hL,af];have htl:(qc L).length<=66:=by
  have:=(acH L).length_le;unfold gE at this;rw [dX] at this;omega
 obtain ⟨b,b1,b2⟩:=awr m (qc L) h1 dO (by omega) (fun e he=>mD e ((acH L).subset he));rw [aws (VH.sublist (acH L))] at b2;rw [b1,af,af];cases b with
 | true=>
  rw [ai];refine ⟨false,rfl,⟨(fun h=>by cases h),fun ⟨_,h2⟩ => ?_⟩⟩;have:=h2.nc;rw [<-aqS h2.lv] at this;exact absurd this (b2.1 rfl)
 | false=>
  have hnc:NoCyc (qc L):=by
   apply yM;intro h;have:=b2.2 h;cases this
  rw [ax];rw [xV L (by omega) (fun x=>!aW x.2.2.1 0 4 || (!x.2.2.2 && !decide (bA m L x.2.2.1 x.1=bA m L x.2.2.1 x.2.1))) false (fun self i y hy => ?_) (fun self=>by simp)]
  ·by_cases hA:L.any (fun x=>!aW x.2.2.1 0 4 || (!x.2.2.2 && !decide (bA m L x.2.2.1 x.1=bA m L x.2.2.1 x.2.1)))=true
   ·rw [if_pos hA];refine ⟨false,rfl,⟨(fun h=>by cases h),fun ⟨_,h2⟩ => ?_⟩⟩;obtain ⟨x,hx,hp⟩:=nI.1 hA;rw [show aW x.2.2.1 0 4=true from aV.2 (h2.lv x hx)] at hp;cases ht:x.2.2.2 with
    | true=>rw [ht] at hp;simp at hp
    | false=>
     rw [ht,ak (h2.un x hx ht)] at hp;simp at hp
   ·rw [if_neg hA,af];have hlu:∀x,x∈L->(0<=x.2.2.1/\x.2.2.1<=4)/\(x.2.2.2=false->bA m L x.2.2.1 x.1=bA m L x.2.2.1 x.2.1):=by
     intro x hx;have hp:¬(!aW x.2.2.1 0 4 || (!x.2.2.2 && !decide (bA m L x.2.2.1 x.1=bA m L x.2.2.1 x.2.1)))=true:=fun h=>hA (nI.2 ⟨x,hx,h⟩)
     rw [iT,not_or] at hp;constructor
     ·have:=hp.1;cases hb:aW x.2.2.1 0 4 with
      | true=>exact aV.1 hb
      | false=>rw [hb] at this;simp at this
     ·intro ht;have:=hp.2;rw [ht] at this;by_cases hl:bA m L x.2.2.1 x.1=bA m L x.2.2.1 x.2.1
      ·exact hl
      ·rw [az hl] at this;simp at this
    simp only;refine dV (x:=(1:Int)) (P:=fun o=>∃b,o=some (b,())/\(b=true↔0<=(m:Int)/\WOk m L)) (fun (s:Int)=>∃k:Nat,s=(k:Int)/\1<=k/\k<=5/\∀j:Nat,1<=j->j<k->∀e,e∈aM L j->cmp m L j e.1<=m / 2 ^ j) (fun s=>5-s.toNat)
     (fun _ (b:Unit ⊕ Bool)=>(b = .inl ()/\∀k:Nat,1<=k->k<=4->∀e,e∈aM L k->cmp m L k e.1<=m / 2 ^ k)\/(b = .inr false/\¬∀k:Nat,1<=k->k<=4->∀e,e∈aM L k->cmp m L k e.1<=m / 2 ^ k)) (by simp [BIG]) ⟨1,rfl,by omega,by omega,fun j h1 h2=>by omega⟩ (fun self s hx hs => ?_) (fun b hb => ?_)
    ·obtain ⟨k,rfl,k1,k2,k3⟩:=hx;by_cases hk:k<=4
     ·rw [ak (by omega),ai,aqT hg k hk,af,bT (by omega)];by_cases hc:∀e,e∈aM L k->cmp m L k e.1<=m / 2 ^ k
      ·simp only [ak hc,bB,ax];refine hs _ ⟨k+1,rfl,by omega,by omega,fun j j1 j2 => ?_⟩ (by simp;omega);by_cases hjk:j=k
       ·subst hjk;exact hc
       ·exact k3 j j1 (by omega)
      ·simp only [az hc,gW,ai];exact ⟨_,rfl,.inr ⟨rfl,fun h=>hc (h k k1 hk)⟩⟩
     ·rw [az (by omega),ax];exact ⟨_,rfl,.inl ⟨rfl,fun j j1 j2=>k3 j j1 (by omega)⟩⟩
    ·rcases hb with ⟨rfl,h⟩|⟨rfl,h⟩
     ·refine ⟨true,rfl,⟨fun _=>⟨by omega,hg,fun x hx=>(hlu x hx).1,?_,fun x hx=>(hlu x hx).2,h⟩,fun _=>rfl⟩⟩;rw [<-aqS fun x hx=>(hlu x hx).1];exact hnc
     ·exact ⟨false,rfl,⟨(fun h=>by cases h),fun ⟨_,h2⟩=>absurd h2.sz h⟩⟩
  ·have hi:=(aZ hy).1;have uF:=fK (mD (y.1,y.2.1) (bX.2 ⟨y,eY hy,rfl⟩));simp only at uF;simp only [show ((i:Int)<(L.length:Int)) from by omega,decide_true,ai];rw [aF hi,hy,af,iV,af,bT (by omega)];cases hb:aW y.2.2.1 0 4 with
   | false=>rfl
   | true=>
    have hll:=dU m (aM L y.2.2.1);simp only [bB,ax,wD];rw [uC L y.2.2.1 dO hL (jA hg _),af];cases ht:y.2.2.2 with
    | true=>rfl
    | false=>
     simp only [gW,ai,dY];rw [bV uF.1 (by omega),getD_at (by omega),af,bV uF.2.2.1 (by omega),getD_at (by omega),af,af];show (Option.bind (bif !decide (bA m L y.2.2.1 y.1=bA m L y.2.2.1 y.2.1) then _ else _) _)=_;cases decide (bA m L y.2.2.1 y.1=bA m L y.2.2.1 y.2.1)<;>rfl
theorem Ff (n:Nat) (L:aa aC) (hL:L.length<=1048576):∃V,mQ ((n:Int),L)=some (V,())/\(WOk n L->V=labs n (aM L 0))/\(¬WOk n L->V=[]):=by
 obtain ⟨b,b1,b2⟩:=Fe n L hL;rw [il] at b2;show ∃V,xM BIG _=_/\_;rw [Qo,b1,af];cases b with
 | false=>exact ⟨[],rfl,fun h=>(by have:=b2.2 ⟨by omega,h⟩;cases this),fun _=>rfl⟩
 | true=>
  have h:=(b2.1 rfl).2;have hg:=h.gr;refine ⟨labs n (aM L 0),?_,fun _=>rfl,fun hn=>absurd h hn⟩;simp only [bB,ax];rw [uC L 0 (zI hg).2 hL (jA hg 0)];rfl
theorem auw (l:aa Int) (c:Int):l.count c=((List.range l.length).filter fun i=>decide (l.getD i 0=c)).length:=by
 have h:l=(List.range l.length).map (fun i=>l.getD i 0):=by
  apply XJ
  ·simp
  ·intro i h1 h2;rw [List.getElem_map,List.getElem_range,dw,aR h1];rfl
 conv=>lhs;rw [h]
 rw [List.count,List.countP_map,List.countP_eq_length_filter];congr 1
section
variable {n:Nat} {L:aa aC} (hg:jT n (gE L)=true)
include hg
theorem Mq {k:Int} {Fs:aa (Int × FT)} (hF:FoOk n (aM L k) Fs) {p:Int × FT} (hp:p∈Fs):(p.1::p.2.vs).length=cmp n L k p.1:=by
 have hE:=(GL hg k).1;have hG:=hF.gt p hp;have hp0:=hG.rg p.1 (dW ..);unfold cmp;rw [auw,dU];have hm:∀x:Int,x∈p.1::p.2.vs↔x∈((List.range n).filter fun i=>decide ((labs n (aM L k)).getD i 0=bA n L k p.1)).map fun (i:Nat)=>(i:Int):=by
  intro x;rw [bX];constructor
  ·intro hx;have hr:=hG.rg x hx;refine ⟨x.toNat,?_,by omega⟩;rw [jK,iY,decide_eq_true_eq];refine ⟨by omega,?_⟩;exact (lg hg k hr hp0).2 ((hG.con hE x).1 hx).symm
  ·rintro ⟨y,hy,rfl⟩;rw [jK,iY,decide_eq_true_eq] at hy;refine (hG.con hE _).2 ?_;have:bA n L k (y:Int)=bA n L k p.1:=by
    unfold bA;rw [il];exact hy.2
   exact ((lg hg k (by omega) hp0).1 this).symm
 have hn2:(((List.range n).filter fun i=>decide ((labs n (aM L k)).getD i 0=bA n L k p.1)).map fun (i:Nat)=>(i:Int)).Nodup:=
  Xi _ _ ((List.nodup_range (n:=n)).sublist XD) fun a _ b _ h=>by omega
 have l1:=mi _ _ hG.nd fun x hx=>(hm x).1 hx
 have l2:=mi _ _ hn2 fun x hx=>(hm x).2 hx
 rw [dX] at l1 l2;omega
theorem Mr {k:Int} {u v:Int} (hu:0<=u/\u<n) (hv:0<=v/\v<n) (h:Con (aM L k) u v):cmp n L k u=cmp n L k v:=by
 unfold cmp;rw [(lg hg k hu hv).2 h]
theorem aux {k:Int} {Fs:aa (Int × FT)} (hF:FoOk n (aM L k) Fs) (B:Nat):(∀p,p∈Fs->1<(p.1::p.2.vs).length->(p.1::p.2.vs).length<=B)↔∀e,e∈aM L k->cmp n L k e.1<=B:=by
 have hE:=(GL hg k).1;constructor
 ·intro h e he;have hr:=fK (hE e he);obtain ⟨p,hp,hx⟩:=hF.cv e.1 hr.1 hr.2.1;have hG:=hF.gt p hp;have hc:=(hG.con hE e.1).1 hx;have Re:e.2∈p.1::p.2.vs:=(hG.con hE e.2).2 (.fwd hc he);have aX:e.1≠e.2:=by omega
  have bN:1<(p.1::p.2.vs).length:=by
   have:=mi [e.1,e.2] (p.1::p.2.vs) (by simp [aX]) (fun y hy=>by
    simp only [aY,sO,or_false] at hy
    rcases hy with rfl|rfl
    ·exact hx
    ·exact Re)
   simp only [bF,bQ] at this ⊢;omega
  have:=h p hp bN;rw [Mq hg hF hp,Mr hg (hG.rg _ (dW ..)) ⟨hr.1,hr.2.1⟩ hc] at this;exact this
 ·intro h p hp bN;have hG:=hF.gt p hp;have hp0:=hG.rg p.1 (dW ..);obtain ⟨u,hu⟩:∃u,u∈p.2.vs:=by
   cases hv:p.2.vs with
   | nil=>rw [hv] at bN;simp at bN
   | cons u _=>exact ⟨u,dW ..⟩
  have aX:u≠p.1:=by
   rintro rfl;exact (nJ.1 hG.nd).1 hu
  have hc:=(hG.con hE u).1 (dQ _ hu);obtain ⟨x,y,d1,d2,d3⟩:=aji (D:=fun z=>z=p.1) hc rfl aX;subst d1;rw [Mq hg hF hp];rcases d3 with d3|d3
  ·exact h _ d3
  ·have hr:=fK (hE _ d3);simp only at hr;rw [Mr hg hp0 ⟨hr.1,hr.2.1⟩ (.bwd (.refl _) d3)];exact h _ d3
def aqU (n:Nat) (L:aa aC) (k:Nat):Prop:=NoCyc (aM L k)/\(∀e,e∈aM L k->cmp n L k e.1<=n / 2 ^ k)/\∀x,x∈L->x.2.2.2=false->x.2.2.1=k->bA n L k x.1=bA n L k x.2.1
theorem anY (lJ:∀x,x∈L->0<=x.2.2.1/\x.2.2.1<=4):WOk n L↔∀k:Nat,k<5->aqU n L k:=by
 constructor
 ·intro h k hk;refine ⟨h.nc.sub (vL (by omega)),?_,fun x hx ht hl => ?_⟩
  ·by_cases h0:k=0
   ·subst h0;intro e he;have:cmp n L ((0:Nat):Int) e.1<=(labs n (aM L ((0:Nat):Int))).length:=List.count_le_length;rw [dU] at this;simpa using this
   ·exact h.sz k (by omega) (by omega)
  ·have:=h.un x hx ht;rw [hl] at this;exact this
 ·intro h;refine ⟨hg,lJ,(h 0 (by omega)).1,fun x hx ht => ?_,fun k k1 k2=>(h k (by omega)).2.1⟩;have hb:=lJ x hx;obtain ⟨j,hj⟩:∃j:Nat,x.2.2.1=(j:Int):=⟨x.2.2.1.toNat,by omega⟩
  rw [hj];exact (h j (by omega)).2.2 x hx ht hj
end
theorem Fg (n:Int) (L:aa aC) (hL:L.length<=1048576):∃b,zi (n,L)=some (b,())/\(b=true↔0<=n/\WOk n.toNat L):=by
 have hm:maxLen=9223372036854775807:=by decide
 show ∃b,Ww BIG _=_/\_;have hG:lU (n,L)=some ((n,gE L),()):=xR n L hL;rw [av1,hG,af,aa0 _ _ (by unfold gE;rw [dX];exact hL),af];by_cases hg:jT n (gE L)=true;case neg=>
  rw [show jT n (gE L)=false by simpa using hg];simp only [gW,ai,af];refine ⟨false,rfl,⟨(fun h=>by cases h),fun ⟨h1,h2⟩ => ?_⟩⟩;have:=h2.gr;rw [jF h1] at this;exact absurd this hg
 obtain ⟨m,rfl⟩:∃m:Nat,n=(m:Int):=by
  have:1<=n:=by
   have h:=hg;unfold jT at h;rw [aU,aV] at h;omega
  exact ⟨n.toNat,by omega⟩
 rw [hg,il];obtain ⟨h1,dO⟩:=zI hg;obtain ⟨mD,VH,Rf⟩:=jY hg;simp only [bB,ax];rw [xV L (by omega) (fun x=>!aW x.2.2.1 0 4) false (fun self i y hy => ?_) (fun self=>by simp)]
 ·by_cases hA:L.any (fun x=>!aW x.2.2.1 0 4)=true
  ·rw [if_pos hA];refine ⟨false,rfl,⟨(fun h=>by cases h),fun ⟨_,h2⟩ => ?_⟩⟩;obtain ⟨x,hx,hp⟩:=nI.1 hA;rw [show aW x.2.2.1 0 4=true from aV.2 (h2.lv x hx)] at hp;simp at hp
  ·rw [if_neg hA,af];have lJ:∀x,x∈L->0<=x.2.2.1/\x.2.2.1<=4:=by
    intro x hx;have hp:¬(!aW x.2.2.1 0 4)=true:=fun h=>hA (nI.2 ⟨x,hx,h⟩)
    cases hb:aW x.2.2.1 0 4 with
    | true=>exact aV.1 hb
    | false=>rw [hb] at hp;simp at hp
   simp only;refine dV (x:=((m:Int),(0:Int))) (P:=fun o=>∃b,o=some (b,())/\(b=true↔0<=(m:Int)/\WOk m L)) (fun (s:Int × Int)=>∃k:Nat,s.2=(k:Int)/\k<=5/\s.1=((m / 2 ^ k:Nat):Int)/\∀j:Nat,j<k->aqU m L j) (fun s=>5-s.2.toNat)
    (fun _ (b:Unit ⊕ Bool)=>(b = .inl ()/\∀k:Nat,k<5->aqU m L k)\/(b = .inr false/\¬∀k:Nat,k<5->aqU m L k)) (by simp [BIG]) ⟨0,rfl,by omega,by simp,fun j h=>by omega⟩ (fun self s hx hs => ?_) (fun b hb => ?_)
   ·obtain ⟨mo,kk⟩:=s;obtain ⟨k,k1,k2,k3,k4⟩:=hx;simp only at k1 k2 k3 k4 hs ⊢;subst k1 k3;by_cases hk:k<=4
    ·obtain ⟨hE,hEn,hEl⟩:=GL hg (k:Int);obtain ⟨r,b,r1,r2,r3⟩:=Aq (n:=m) L (k:Int) h1 dO hL hE;rw [ak (by omega),ai,r1,af];cases b with
     | false=>
      simp only [gW,ai,af];refine ⟨_,rfl,.inr ⟨rfl,fun h => ?_⟩⟩;have:=r2.2 (h k (by omega)).1;cases this
     | true=>
      obtain ⟨Fs,rfl,hF⟩:=r3 rfl;have htl:=Df Fs;have dF:=hF.size;have hnc:=r2.1 rfl;simp only [bB,ax];rw [xV Fs (by omega) (fun p=>decide (1<(p.1::p.2.vs).length)&&decide (m / 2 ^ k<(p.1::p.2.vs).length)) false (fun self2 i y hy => ?_) (fun self2=>by simp [htl])]
      ·by_cases hT:Fs.any (fun p=>decide (1<(p.1::p.2.vs).length)&&decide (m / 2 ^ k<(p.1::p.2.vs).length))=true
       ·rw [if_pos hT];refine ⟨_,rfl,.inr ⟨rfl,fun h => ?_⟩⟩;obtain ⟨p,hp,hq⟩:=nI.1 hT;rw [aU,decide_eq_true_eq,decide_eq_true_eq] at hq;have:=(aux hg hF _).2 (h k (by omega)).2.1 p hp hq.1;omega
       ·rw [if_neg hT,af];have aFQ:=(aux hg hF (m / 2 ^ k)).1 fun p hp hq=>by
         apply yM;intro bR;exact hT (nI.2 ⟨p,hp,by rw [aU,decide_eq_true_eq,decide_eq_true_eq];omega⟩)
        simp only;rw [xV L (by omega) (fun x=>!x.2.2.2&&(decide (x.2.2.1=(k:Int)) && !decide (bA m L k x.1=bA m L k x.2.1))) false (fun self3 i y hy => ?_) (fun self3=>by simp)]
        ·by_cases hU:L.any (fun x=>!x.2.2.2&&(decide (x.2.2.1=(k:Int)) && !decide (bA m L k x.1=bA m L k x.2.1)))=true
         ·rw [if_pos hU];refine ⟨_,rfl,.inr ⟨rfl,fun h => ?_⟩⟩;obtain ⟨x,hx,hq⟩:=nI.1 hU;simp only [aU,sK,decide_eq_true_eq,decide_eq_false_iff_not] at hq;exact hq.2.2 ((h k (by omega)).2.2 x hx hq.1 hq.2.1)
         ·rw [if_neg hU,af];simp only;rw [az (by omega),ax,af];have awV:IntKind.wrap .i64 (Int.tdiv ((m / 2 ^ k:Nat):Int) 2)=((m / 2 ^ (k+1):Nat):Int):=by
           have h0:m / 2 ^ k<=m:=Nat.div_le_self ..;have h2:Int.tdiv ((m / 2 ^ k:Nat):Int) 2=((m / 2 ^ (k+1):Nat):Int):=by
            rw [Nat.pow_succ,<-Nat.div_div_eq_div_mul];rfl
           have h3:m / 2 ^ (k+1)<=m:=Nat.div_le_self ..;have h4:(0:Int)<=((m / 2 ^ (k+1):Nat):Int):=XF _;rw [h2,wr (by omega) (by omega)]
          simp only;rw [awV,bT (by omega)];refine hs _ ⟨k+1,rfl,by omega,rfl,fun j hj => ?_⟩ (by simp;omega);by_cases hjk:j=k
          ·subst hjk;refine ⟨hnc,aFQ,fun x hx ht hl => ?_⟩;apply yM;intro aX;refine hU (nI.2 ⟨x,hx,?_⟩);rw [ht,ak hl,az aX];rfl
          ·exact k4 j (by omega)
        ·have hi:=(aZ hy).1;have uF:=fK (mD (y.1,y.2.1) (bX.2 ⟨y,eY hy,rfl⟩));simp only at uF;obtain ⟨ja,pa,a1,a2,a3⟩:=sw hE hF dO h1 y.1 uF.1 uF.2.1;obtain ⟨jb,pb,b1,b2,b3⟩:=sw hE hF dO h1 y.2.1 uF.2.2.1 uF.2.2.2.1;have ME:((ja:Int)=(jb:Int))↔bA m L k y.1=bA m L k y.2.1:=by
          rw [lg hg (k:Int) ⟨uF.1,uF.2.1⟩ ⟨uF.2.2.1,uF.2.2.2.1⟩];constructor
          ·intro h;have:ja=jb:=by omega
           subst this;rw [a1,aN] at b1;subst b1;have hG:=hF.gt pa (eY a1);exact ((hG.con hE _).1 a2).symm.trans ((hG.con hE _).1 b2)
          ·intro h;have:=hF.idx hE a1 b1 a2 b2 h;omega
         simp only [show ((i:Int)<(L.length:Int)) from by omega,decide_true,ai];rw [aF hi,hy,af,bT (by omega)];cases ht:y.2.2.2 with
         | true=>rfl
         | false=>
          simp only [gW,ai,dY];by_cases hl:y.2.2.1=(k:Int)
          ·rw [ak hl,ai,a3,af,b3,af,af];by_cases hq:bA m L k y.1=bA m L k y.2.1
           ·rw [ak hq,ak (ME.2 hq)];rfl
           ·rw [az hq,az (fun h=>hq (ME.1 h))];rfl
          ·rw [az hl,ax];rfl
      ·have hi:=(aZ hy).1;obtain ⟨V,v1,_,_,v4,_,v6⟩:=hF.verts dO (eY hy);rw [ak (by omega),ai,aF (by omega),wu hy,af,v1,af,bT (by omega)];simp only;rw [<-v4];by_cases c1:1<V.length
       ·rw [ak (show ((1:Int)<(V.length:Int)) by omega),ak c1,ai,af,dY];by_cases c2:m / 2 ^ k<V.length
        ·rw [ak (by omega),ak c2];rfl
        ·rw [az (by omega),az c2];rfl
       ·rw [az (show ¬((1:Int)<(V.length:Int)) by omega),az c1];rfl
    ·rw [az (by omega),ax];exact ⟨_,rfl,.inl ⟨rfl,fun j hj=>k4 j (by omega)⟩⟩
   ·rcases hb with ⟨rfl,h⟩|⟨rfl,h⟩
    ·exact ⟨true,rfl,⟨fun _=>⟨by omega,(anY hg lJ).2 h⟩,fun _=>rfl⟩⟩
    ·exact ⟨false,rfl,⟨(fun h=>by cases h),fun ⟨_,h2⟩=>absurd ((anY hg lJ).1 h2) h⟩⟩
 ·have hi:=(aZ hy).1;simp only [show ((i:Int)<(L.length:Int)) from by omega,decide_true,ai];rw [aF hi,hy,af,dH,af,bT (by omega)];cases aW y.2.2.1 0 4<;>rfl
theorem Fh (n:Nat) (L:aa aC) (hL:L.length<=1048576):∃V,mP ((n:Int),L)=some (V,())/\(WOk n L->V=labs n (aM L 0))/\(¬WOk n L->V=[]):=by
 have hm:maxLen=9223372036854775807:=by decide
 obtain ⟨b,b1,b2⟩:=Fg n L hL;rw [il] at b2;show ∃V,xF BIG _=_/\_;rw [O7,b1,af];cases b with
 | false=>exact ⟨[],rfl,fun h=>(by have:=b2.2 ⟨by omega,h⟩;cases this),fun _=>rfl⟩
 | true=>
  have h:=(b2.1 rfl).2;have hg:=h.gr;obtain ⟨h1,dO⟩:=zI hg;obtain ⟨hE,hEn,hEl⟩:=GL hg 0;obtain ⟨r,b',r1,r2,r3⟩:=Aq (n:=n) L 0 h1 dO hL hE;obtain ⟨Fs,rfl,hF⟩:=r3 (r2.2 h.nc);have hll:=dU n (aM L 0);have aks:=kZ (jA hg 0);refine ⟨labs n (aM L 0),?_,fun _=>rfl,fun hn=>absurd h hn⟩;simp only [bB,ax];rw [r1,af];simp only;refine dV (x:=([],(0:Int))) (P:=fun o=>o=some (labs n (aM L 0),())) (fun (s:aa Int × Int)=>∃i:Nat,s.2=i/\i<=n/\s.1=(labs n (aM L 0)).take i) (fun s=>n-s.2.toNat)
   (fun _ (V:aa Int)=>V=labs n (aM L 0)) (by simp [BIG];omega) ⟨0,rfl,by omega,by simp⟩ (fun self s hx hs => ?_) (fun V hV=>by rw [hV])
  obtain ⟨s,j⟩:=s;obtain ⟨i,k1,k2,k3⟩:=hx;simp only at k1 k2 k3 hs ⊢;subst k1 k3;by_cases hi:i<n
  ·obtain ⟨j,p,p1,p2,p3⟩:=sw hE hF dO h1 (i:Int) (by omega) (by omega);have uE:=(aZ p1).1;have kC:=eY p1;have hG:=hF.gt p kC;obtain ⟨V,v1,_,_,v4,v5,v6⟩:=hF.verts dO kC;have htl:=Df Fs;rw [ak (by omega),ai,p3,af,aF (by omega),wu p1,af,v1,af];have hV0:0<V.length:=by rw [v4];simp
   rw [bV (by omega) (by simp only;omega),show Int.toNat 0=0 from rfl];simp only;rw [v5,af,ak (by simp only [iy,bF,bQ];omega),ai,bT (by omega)];have hgi:=aR (show i<(labs n (aM L 0)).length by omega);have acN:=aks.2 i _ hgi;have hc:Con (aM L 0) i p.1:=((hG.con hE _).1 p2).symm;have e1:(labs n (aM L 0))[i]=p.1:=by
    have l1:=acN.2.2 p.1 (hG.rg _ (dW ..)).1 hc;have l2:=hF.mn p kC _ ((hG.con hE _).2 (hc.symm.trans acN.1));omega
   refine hs _ ⟨i+1,rfl,by omega,?_⟩ (by simp;omega);simp only;rw [rC (by omega),e1]
  ·rw [az (by omega),ax];have:i=n:=by omega
   subst this;exact ⟨_,rfl,by rw [Rk (by omega)]⟩
theorem afl (x0 x1:Int) (x2:aa aC) (y:An) (h2:x2.length<=1048576) (h5:y.2.2.1.length<=1048576) (h6:y.2.2.2.length<=1048576) :
  ∃b,CQ (x0,x1,x2,y)=some (b,())/\CF (x0,x1,x2,y)=some (b,())/\(b=true↔(1<=x0/\x0<=3)/\0<=x1/\WOk x1.toNat x2/\(blA y=true\/pW x1 y=true/\y.2.2.2=labs x1.toNat (aM x2 0))):=by
 have hm:maxLen=9223372036854775807:=by decide
 show ∃b,LQ BIG _=_/\Lc BIG _=_/\_;rw [aqs,apQ,iV,dH,af,af];by_cases h0:aW x0 1 3=true;case neg=>
  rw [show aW x0 1 3=false by simpa using h0];exact ⟨false,rfl,rfl,⟨(fun h=>by cases h),fun h=>absurd (aV.2 h.1) h0⟩⟩
 rw [h0];obtain ⟨b,b1,b2⟩:=Fe x1 x2 h2;obtain ⟨b',b1',b2'⟩:=Fg x1 x2 h2;have Rh:b'=b:=by
  cases b<;>cases b'<;>simp_all
 subst Rh;simp only [bB,ax,b1,b1',af];cases b' with
 | false=>
  refine ⟨false,rfl,rfl,⟨(fun h=>by cases h),fun h => ?_⟩⟩;have:=b2.2 ⟨h.2.1,h.2.2.1⟩;cases this
 | true=>
  obtain ⟨n0,hw⟩:=b2.1 rfl;simp only [bB,ax];rw [alR,alS _ (by omega) (by omega),af,af];cases hb:blA y with
  | true=>exact ⟨true,rfl,rfl,⟨fun _=>⟨aV.1 h0,n0,hw,.inl rfl⟩,fun _=>rfl⟩⟩
  | false=>
   simp only [ax];rw [Vo _ _ h5 h6,Vp _ _ h5 h6,af,af];cases ha:pW x1 y with
   | false=>exact ⟨false,rfl,rfl,⟨(fun h=>by cases h),fun h=>by
     rcases h.2.2.2 with h|⟨h,_⟩<;>cases h⟩⟩
   | true=>
    obtain ⟨m,rfl⟩:∃m:Nat,x1=(m:Int):=⟨x1.toNat,by omega⟩
    rw [il] at hw ⊢;obtain ⟨V,v1,v2,_⟩:=Ff m x2 h2;obtain ⟨V',v1',v2',_⟩:=Fh m x2 h2;rw [v2 hw] at v1;rw [v2' hw] at v1';simp only [ai];rw [v1,v1',af,af,alU _ _ (by omega),tH _ _ (by omega),af,af];refine ⟨_,rfl,rfl,?_⟩;rw [decide_eq_true_eq];exact ⟨fun h=>⟨aV.1 h0,n0,hw,.inr ⟨by trivial,h⟩⟩,fun h=>by
     rcases h.2.2.2 with h|⟨_,h⟩
     ·cases h
     ·exact h⟩
def tQ (L:aa aC) (p:aC->Nat) (rz hz:aC->aC):aa aC × ah (Nat × aC):=
 if h:L.findIdx (fun y=>decide (p y=2))<L.length then
  ((L.take (L.findIdx fun y=>decide (p y=2))).map (fun y=>if p y=1 then rz y else y)++hz L[L.findIdx fun y=>decide (p y=2)]::L.drop (L.findIdx (fun y=>decide (p y=2))+1),some (L.findIdx (fun y=>decide (p y=2)),hz L[L.findIdx fun y=>decide (p y=2)]))
 else (L.map fun y=>if p y=1 then rz y else y,none)
theorem set_mid {α:Type} (a:aa α) (x y:α) (b:aa α):(a++x::b).set a.length y=a++y::b:=by
 rw [List.set_append_right _ _ (eX _),Nat.sub_self];rfl
theorem Dg {A B:Type} {o:ah A} {v:A} (h:o=some v) (f:A->ah B):Option.bind o f=f v:=by rw [h];rfl
theorem aa_ {X B:Type} (L:aa aC) (hl:L.length<=1048576) (p:aC->Nat) (rz hz:aC->aC) (mk:aa aC->Nat->X) (ix:X->Nat) (hix:∀l i,ix (mk l i)=i) (fin:aa aC->B) (hit:aa aC->Nat->aC->B) {F:(X->ah B)->X->ah B}
  (hF:∀self (out:aa aC) (i:Nat) y,out.length=L.length->L[i]?=some y->out[i]?=some y->F self (mk out i)=if p y=2 then some (hit (out.set i (hz y)) i (hz y)) else self (mk (out.set i (if p y=1 then rz y else y)) (i+1)))
  (hE:∀self (out:aa aC),out.length=L.length->F self (mk out L.length)=some (fin out)) :
  aJ BIG F (mk L 0)=some (match (tQ L p rz hz).2 with|none=>fin (tQ L p rz hz).1|some (j,y)=>hit (tQ L p rz hz).1 j y):=by
 refine ky (fun x=>∃i:Nat,i<=L.length/\x=mk ((L.take i).map (fun y=>if p y=1 then rz y else y)++L.drop i) i/\∀j y,j<i->L[j]?=some y->p y≠2) (fun x=>L.length-ix x) (fun _=>_) (fun self x ⟨i,h1,h2,h3⟩ hs => ?_) (n:=BIG) (x:=mk L 0) (by rw [hix];simp [BIG];omega) ⟨0,by omega,by simp,fun j y h=>by omega⟩;subst h2;have bN:((L.take i).map (fun y=>if p y=1 then rz y else y)++L.drop i).length=L.length:=by
  simp only [dP,dX,iy,sN];omega
 have htl:((L.take i).map (fun y=>if p y=1 then rz y else y)).length=i:=by
  simp only [dX,iy];omega
 by_cases hi:i<L.length
 ·have hy:=aR hi;have hd:L.drop i=L[i]::L.drop (i+1):=uU hi;have ho:((L.take i).map (fun y=>if p y=1 then rz y else y)++L.drop i)[i]?=some L[i]:=by
   rw [uT (by omega),htl,Nat.sub_self,hd];rfl
  have I1:∀z,((L.take i).map (fun y=>if p y=1 then rz y else y)++L.drop i).set i z=(L.take i).map (fun y=>if p y=1 then rz y else y)++z::L.drop (i+1):=by
   intro z;have:=set_mid ((L.take i).map (fun y=>if p y=1 then rz y else y)) L[i] z (L.drop (i+1));rw [htl] at this;rw [hd];exact this
  rw [hF self _ i L[i] bN hy ho];by_cases hp:p L[i]=2
  ·rw [if_pos hp,I1];have hfi:L.findIdx (fun y=>decide (p y=2))=i:=by
    rw [List.findIdx_eq hi];refine ⟨by simpa using hp,fun j hj => ?_⟩;have:=h3 j L[j] hj (aR (by omega));simpa using this
   unfold tQ;rw [dif_pos (by rw [hfi];exact hi)];simp only [hfi]
  ·rw [if_neg hp];refine hs _ ⟨i+1,hi,?_,fun j y hj hjy => ?_⟩ (by rw [hix,hix];omega)
   ·rw [I1,rC hi,uH,lK];rfl
   ·by_cases ik:j=i
    ·subst ik;rw [hy] at hjy;cases hjy;exact hp
    ·exact h3 j y (by omega) hjy
 ·have bn:i=L.length:=by omega
  subst bn;rw [hE self _ bN];have eD:¬L.findIdx (fun y=>decide (p y=2))<L.length:=by
   intro bR;have h1:=XB (w:=bR);have:=h3 _ _ bR (aR bR);exact this (by simpa using h1)
  unfold tQ;rw [dif_neg eD];simp
def QU (k:Int):Int:=if 4<k+1 then 4 else k+1
def kQ (k:Int) (x:aC):aC:=(x.1,x.2.1,QU k,x.2.2.2)
def GM (x:aC):aC:=(x.1,x.2.1,x.2.2.1,true)
def lD (s:Int->Bool) (k:Int) (x:aC):Nat:=if x.2.2.2=true/\x.2.2.1=k/\s x.1=true then 1 else 0
def fZ (s:Int->Bool) (k:Int) (x:aC):Nat:=if x.2.2.2=true\/x.2.2.1≠k\/(s x.1=false/\s x.2.1=false) then 0 else if s x.1=true/\s x.2.1=true then 1 else 2
def sch (n:Nat) (L:aa aC) (e:Ed) (k:Int):aa aC × ah (Nat × aC):=
 let c:=if cmp n L k e.2<cmp n L k e.1 then bA n L k e.2 else bA n L k e.1
 tQ ((tQ L (lD (fun x=>decide (bA n L k x=c)) k) (kQ k) GM).1) (fZ (fun x=>decide (bA n L k x=c)) k) (kQ k) GM
theorem JW {L:aa aC} {p:aC->Nat} {rz hz:aC->aC} (h:∀y,p y≠2):tQ L p rz hz=(L.map fun y=>if p y=1 then rz y else y,none):=by
 unfold tQ;rw [dif_neg];intro bR;have h1:=XB (w:=bR);exact h _ (by simpa using h1)
theorem anZ (L:aa aC) (p:aC->Nat) (rz hz:aC->aC):(tQ L p rz hz).1.length=L.length:=by
 unfold tQ;split
 ·rename_i h;simp only [dP,dX,iy,bF,sN];omega
 ·simp
theorem GN (s:Int->Bool) (k:Int):∀y,lD s k y≠2:=fun y=>by unfold lD;split<;>omega
theorem auy {L:aa aC} {p:aC->Nat} {rz hz:aC->aC} (h1:∀y,((rz y).1,(rz y).2.1)=(y.1,y.2.1)) (h2:∀y,((hz y).1,(hz y).2.1)=(y.1,y.2.1)):gE (tQ L p rz hz).1=gE L:=by
 unfold tQ gE;split
 ·rename_i h;have:L=L.take (L.findIdx fun y=>decide (p y=2))++L[L.findIdx fun y=>decide (p y=2)]::L.drop (L.findIdx (fun y=>decide (p y=2))+1):=by
   conv=>lhs;rw [<-Kb (L.findIdx fun y=>decide (p y=2)) L,uU h]
  conv=>rhs;rw [this]
  simp only [uH,bv,Av,h2];congr 1;apply Rl;intro y _;simp only [Function.comp];split
  ·exact h1 y
  ·rfl
 ·rw [Av];apply Rl;intro y _;simp only [Function.comp];split
  ·exact h1 y
  ·rfl
theorem an0 {L:aa aC} {p:aC->Nat} {rz hz:aC->aC} (h1:∀y,((rz y).1,(rz y).2.1)=(y.1,y.2.1)) (h3:∀y,(rz y).2.2.2=y.2.2.2) (hn:(tQ L p rz hz).2=none):qc (tQ L p rz hz).1=qc L:=by
 unfold tQ at hn ⊢;split at hn
 ·cases hn
 ·rename_i h;rw [dif_neg h];unfold qc;simp only [List.filter_map,Av];have hc:((fun x:aC=>x.2.2.2) ∘ fun y=>if p y=1 then rz y else y)=fun x:aC=>x.2.2.2:=by
   funext y;simp only [Function.comp];split
   ·exact h3 y
   ·rfl
  rw [hc];apply Rl;intro y _;simp only [Function.comp];split
  ·exact h1 y
  ·rfl
theorem wrk {k:Int} (h0:0<=k) (h4:k<=4):IntKind.wrap .i64 (k+1)=k+1:=wr (by omega) (by omega)
section
variable {n:Nat} {L:aa aC} (hg:jT n (gE L)=true) {e:Ed} (ha:0<=e.1/\e.1<n) (hb:0<=e.2/\e.2<n) {k:Int} (k0:0<=k) (k4:k<=4)
include hg ha hb k0 k4
theorem agi {x:aC} (hx:x∈L):(0<=x.1/\x.1<n)/\(0<=x.2.1/\x.2.1<n):=by
 have:=fK ((jY hg).1 (x.1,x.2.1) (bX.2 ⟨x,hx,rfl⟩));simp only at this;omega
theorem aBA:qB (((n:Int),L),e,k)=some ((match (sch n L e k).2 with|none=>(((0:Int),(0:Int),false),((n:Int),(sch n L e k).1))|some (_,y)=>((y.1,y.2.1,true),((n:Int),(sch n L e k).1)))):=by
 have hm:maxLen=9223372036854775807:=by decide
 obtain ⟨h1,dO⟩:=zI hg;obtain ⟨mD,VH,Rf⟩:=jY hg;have hll:=dU n (aM L k);show IW BIG _=_;rw [alN,uC L k dO (by omega) (jA hg k),af];simp only;have gA:∀{B:Type} {q:Nat->ah B} {v:Int},0<=v/\v<n->bnd (labs n (aM L k)).length v q=q v.toNat:=fun h=>bV h.1 (by omega)
 have gV:∀{v:Int},0<=v/\v<n->(labs n (aM L k))[v.toNat]?=some (bA n L k v):=fun h=>getD_at (by omega)
 rw [gA ha,gV ha,af,gA hb,gV hb,af,Xj _ _ (by omega),af,gA ha,gV ha,af,Xj _ _ (by omega),af];have Xr:(bif decide (((labs n (aM L k)).count (bA n L k e.2):Int)<((labs n (aM L k)).count (bA n L k e.1):Int)) then bnd (labs n (aM L k)).length e.2 fun n9=>Option.bind (labs n (aM L k))[n9]? fun y10=>some y10 else some (bA n L k e.1))=some (if cmp n L k e.2<cmp n L k e.1 then bA n L k e.2 else bA n L k e.1):=by
  show (bif decide ((cmp n L k e.2:Int)<(cmp n L k e.1:Int)) then _ else _)=_;by_cases hc:cmp n L k e.2<cmp n L k e.1
  ·rw [ak (by omega),ai,gA hb,gV hb,if_pos hc];rfl
  ·rw [az (by omega),ax,if_neg hc]
 rw [Xr,af];unfold sch;simp only;generalize (if cmp n L k e.2<cmp n L k e.1 then bA n L k e.2 else bA n L k e.1)=c;rw [wrk k0 k4];have mX:(if (4:Int)<k+1 then (4:Int) else k+1)=QU k:=rfl;simp only [mX];have e1:=aa_ L (by omega) (lD (fun x=>decide (bA n L k x=c)) k) (kQ k) GM (fun (l:aa aC) (i:Nat)=>((((n:Int),l),(i:Int)):(Int × aa aC) × Int)) (fun x=>x.2.toNat) (fun _ _=>by simp) (fun l=>((n:Int),l)) (fun l _ _=>((n:Int),l)) (F:=fun self13 x12=>
  bif decide (x12.2<(L.length:Int)) then
   Option.bind (bnd x12.1.2.length x12.2 fun n14=>
    Option.bind (Option.bind x12.1.2[n14]? fun y15=>
     bif y15.2.2.2 then
      Option.bind x12.1.2[n14]? fun y16=>
      bif decide (y16.2.2.1=k) then
       Option.bind x12.1.2[n14]? fun y17=>
       bnd (labs n (aM L k)).length y17.1 fun n18=>
       Option.bind (labs n (aM L k))[n18]? fun y19=>
       some (decide (y19=c))
      else some false
     else some false:ah (Bool)) fun x20=>
    bif x20 then
     Option.bind x12.1.2[n14]? fun y21=>
     some (x12.1.1,x12.1.2.set n14 (y21.1,y21.2.1,QU k,y21.2.2.2))
    else some x12.1:ah ((Int × aa (Int × Int × Int × Bool)))) fun x22=>
   self13 (x22,IntKind.wrap .i64 (x12.2+(1:Int)))
  else some x12.1) (fun self out i y ho hy yl => ?_) (fun self out ho=>by simp)
 ·rw [JW (GN _ _)] at e1;simp only at e1;refine (Dg e1 _).trans ?_;rw [JW (GN _ _)];simp only;have hmr:∀y,y∈L.map (fun y=>if lD (fun x=>decide (bA n L k x=c)) k y=1 then kQ k y else y)->(0<=y.1/\y.1<n)/\(0<=y.2.1/\y.2.1<n):=by
   intro y hy;obtain ⟨z,hz,rfl⟩:=bX.1 hy;have:=agi hg ha hb k0 k4 hz;split
   ·exact this
   ·exact this
  have hl1:(L.map (fun y=>if lD (fun x=>decide (bA n L k x=c)) k y=1 then kQ k y else y)).length<=1048576:=by rw [dX];omega
  generalize L.map (fun y=>if lD (fun x=>decide (bA n L k x=c)) k y=1 then kQ k y else y)=M at hmr hl1;have e2:=aa_ M hl1 (fZ (fun x=>decide (bA n L k x=c)) k) (kQ k) GM (fun (l:aa aC) (i:Nat)=>((((n:Int),l),((0:Int),(0:Int)),(i:Int)):(Int × aa aC) × (Int × Int) × Int)) (fun x=>x.2.2.toNat) (fun _ _=>by simp) (fun l=>Sum.inl (((n:Int),l),((0:Int),(0:Int)))) (fun l _ y=>Sum.inr ((y.1,y.2.1),true,((n:Int),l))) (F:=fun self25 x24=>
  bif decide (x24.2.2<(M.length:Int)) then
   Option.bind (bnd x24.1.2.length x24.2.2 fun n26=>
    Option.bind (Option.bind x24.1.2[n26]? fun y27=>
     bif y27.2.2.2 then
      some true
     else Option.bind x24.1.2[n26]? fun y28=>
     bif !decide (y28.2.2.1=k) then
      some true
     else Option.bind x24.1.2[n26]? fun y29=>
     bnd (labs n (aM L k)).length y29.1 fun n30=>
     Option.bind (labs n (aM L k))[n30]? fun y31=>
     bif !decide (y31=c) then
      Option.bind x24.1.2[n26]? fun y32=>
      bnd (labs n (aM L k)).length y32.2.1 fun n33=>
      Option.bind (labs n (aM L k))[n33]? fun y34=>
      some (!decide (y34=c))
     else some false:ah (Bool)) fun x35=>
    bif x35 then
     some (Sum.inl (x24.1,x24.2.1))
    else Option.bind x24.1.2[n26]? fun y36=>
    bnd (labs n (aM L k)).length y36.1 fun n37=>
    Option.bind (labs n (aM L k))[n37]? fun y38=>
    Option.bind x24.1.2[n26]? fun y39=>
    bnd (labs n (aM L k)).length y39.2.1 fun n40=>
    Option.bind (labs n (aM L k))[n40]? fun y41=>
    bif !decide (y38=y41) then
     Option.bind x24.1.2[n26]? fun y42=>
     Option.bind (x24.1.2.set n26 (y42.1,y42.2.1,y42.2.2.1,true))[n26]? fun y43=>
     Option.bind (x24.1.2.set n26 (y42.1,y42.2.1,y42.2.2.1,true))[n26]? fun y44=>
     some (Sum.inr ((y43.1,y44.2.1),true,(x24.1.1,x24.1.2.set n26 (y42.1,y42.2.1,y42.2.2.1,true))))
    else Option.bind x24.1.2[n26]? fun y45=>
    some (Sum.inl ((x24.1.1,x24.1.2.set n26 (y45.1,y45.2.1,QU k,y45.2.2.2)),x24.2.1)):ah (((Int × aa (Int × Int × Int × Bool)) × (Int × Int)) ⊕ ((Int × Int) × Bool × (Int × aa (Int × Int × Int × Bool))))) fun y=>match y with
   | .inl x46=>
    self25 (x46.1,x46.2,IntKind.wrap .i64 (x24.2.2+(1:Int)))
   | .inr x46=>
    some (Sum.inr (x46.1,x46.2.1,x46.2.2))
  else some (Sum.inl (x24.1,x24.2.1))) (fun self out i y ho hy yl => ?_) (fun self out ho=>by simp)
  ·refine (Dg e2 _).trans ?_;cases (tQ M (fZ (fun x=>decide (bA n L k x=c)) k) (kQ k) GM).2 with
   | none=>rfl
   | some r=>rfl
  ·have hi:=(aZ hy).1;obtain ⟨r1,r2⟩:=hmr y (eY hy);have hso:∀z,(out.set i z)[i]?=some z:=fun z=>Xz (by omega)
   simp only [show ((i:Int)<(M.length:Int)) from by omega,decide_true,ai];rw [aF (by omega),bT (by omega)];simp only [yl,af,gA r1,gV r1,gA r2,gV r2,hso];cases ht:y.2.2.2 with
   | true=>
    have hp:fZ (fun x=>decide (bA n L k x=c)) k y=0:=by unfold fZ;rw [if_pos (.inl ht)]
    rw [hp,if_neg (by omega),if_neg (by omega),set_self yl];rfl
   | false=>
    simp only [ax];by_cases hk:y.2.2.1=k
    ·simp only [ak hk,bB,ax];by_cases hA:bA n L k y.1=c
     ·simp only [ak hA,bB,ax,af];by_cases hB:bA n L k y.2.1=c
      ·have hp:fZ (fun x=>decide (bA n L k x=c)) k y=1:=by
        unfold fZ;rw [if_neg (by simp [ht,hk,hA]),if_pos (by simp [hA,hB])]
       rw [hp,if_neg (by omega),if_pos rfl,hA,hB];simp only [decide_true,bB,ax,af];unfold kQ;rw [ht]
      ·have hp:fZ (fun x=>decide (bA n L k x=c)) k y=2:=by
        unfold fZ;rw [if_neg (by simp [ht,hk,hA]),if_neg (by simp [hB])]
       rw [hp,if_pos rfl,hA];simp only [az (fun h=>hB (Eq.symm h):¬c=bA n L k y.2.1),gW,ai,af];rfl
     ·simp only [az hA,gW,ai];by_cases hB:bA n L k y.2.1=c
      ·have hp:fZ (fun x=>decide (bA n L k x=c)) k y=2:=by
        unfold fZ;rw [if_neg (by simp [ht,hk,hB]),if_neg (by simp [hA])]
       rw [hp,if_pos rfl,hB];simp only [decide_true,bB,ax,af,az hA,gW,ai];rfl
      ·have hp:fZ (fun x=>decide (bA n L k x=c)) k y=0:=by
        unfold fZ;rw [if_pos (.inr (.inr ⟨az hA,az hB⟩))]
       rw [hp,if_neg (by omega),if_neg (by omega),set_self yl];simp only [az hB,gW,ai,af]
    ·have hp:fZ (fun x=>decide (bA n L k x=c)) k y=0:=by unfold fZ;rw [if_pos (.inr (.inl hk))]
     rw [hp,if_neg (by omega),if_neg (by omega),set_self yl];simp only [az hk,gW,ai,af]
 ·have hi:=(aZ hy).1;obtain ⟨r1,r2⟩:=agi hg ha hb k0 k4 (eY hy);simp only [show ((i:Int)<(L.length:Int)) from by omega,decide_true,ai];rw [aF (by omega),bT (by omega),if_neg (GN _ _ _)];simp only [yl,af,gA r1,gV r1];cases ht:y.2.2.2 with
  | false=>
   have hp:lD (fun x=>decide (bA n L k x=c)) k y=0:=by unfold lD;rw [if_neg (by simp [ht])]
   rw [hp,if_neg (by omega),set_self yl];rfl
  | true=>
   simp only [ai];by_cases hk:y.2.2.1=k
   ·simp only [ak hk,ai];by_cases hA:bA n L k y.1=c
    ·have hp:lD (fun x=>decide (bA n L k x=c)) k y=1:=by unfold lD;rw [if_pos ⟨ht,hk,ak hA⟩]
     rw [hp,if_pos rfl];simp only [ak hA,ai,af];unfold kQ;rw [ht]
    ·have hp:lD (fun x=>decide (bA n L k x=c)) k y=0:=by unfold lD;rw [if_neg (by simp [hA])]
     rw [hp,if_neg (by omega),set_self yl];simp only [az hA,ax,af]
   ·have hp:lD (fun x=>decide (bA n L k x=c)) k y=0:=by unfold lD;rw [if_neg (by simp [hk])]
    rw [hp,if_neg (by omega),set_self yl];simp only [az hk,ax,af]
end
section
variable {n:Nat} {L:aa aC} (hg:jT n (gE L)=true) {e:Ed} (ha:0<=e.1/\e.1<n) (hb:0<=e.2/\e.2<n) {k:Int} (k0:0<=k) (k4:k<=4)
include hg ha hb k0 k4
theorem awt (hN:NoCyc (aM L k)):rZ (((n:Int),L),e,k)=some (((sch n L e k).1,match (sch n L e k).2 with|none=>(-1:Int)|some (j,_)=>(j:Int)),()):=by
 have hm:maxLen=9223372036854775807:=by decide
 obtain ⟨h1,dO⟩:=zI hg;obtain ⟨mD,VH,Rf⟩:=jY hg;obtain ⟨hE,hEn,hEl⟩:=GL hg k;obtain ⟨r,b,r1,r2,r3⟩:=Aq (n:=n) L k h1 dO (by omega) hE;obtain ⟨Fs,rfl,hF⟩:=r3 (r2.2 hN);obtain ⟨ja,pa,a1,a2,a3⟩:=sw hE hF dO h1 e.1 ha.1 ha.2;obtain ⟨jb,pb,b1,b2,b3⟩:=sw hE hF dO h1 e.2 hb.1 hb.2;have htl:=Df Fs;have jal:=(aZ a1).1;have jbl:=(aZ b1).1;have hpa:=eY a1;have hpb:=eY b1;obtain ⟨Va,va1,_,va3,va4,_,va6⟩:=hF.verts dO hpa;obtain ⟨Vb,vb1,_,vb3,vb4,_,vb6⟩:=hF.verts dO hpb;have hGa:=hF.gt pa hpa;have hGb:=hF.gt pb hpb;have ra:=hGa.rg pa.1 (dW ..);have rb:=hGb.rg pb.1 (dW ..);have ca:=(hGa.con hE _).1 a2;have cb:=(hGb.con hE _).1 b2;have la:Va.length=cmp n L k e.1:=by rw [va4,Mq hg hF hpa,Mr hg ra ha ca]
 have lb:Vb.length=cmp n L k e.2:=by rw [vb4,Mq hg hF hpb,Mr hg rb hb cb]
 have ma:∀x:Int,0<=x/\x<n->(x∈Va↔bA n L k x=bA n L k e.1):=fun x hx=>by
  rw [va3,hGa.con hE,lg hg k hx ha];exact ⟨fun h=>h.symm.trans ca,fun h=>ca.trans h.symm⟩
 have mb:∀x:Int,0<=x/\x<n->(x∈Vb↔bA n L k x=bA n L k e.2):=fun x hx=>by
  rw [vb3,hGb.con hE,lg hg k hx hb];exact ⟨fun h=>h.symm.trans cb,fun h=>cb.trans h.symm⟩
 show Ei BIG _=_;rw [aic,ak (by simp only;omega),ai,r1,af];simp only;rw [a3,af,aF (by omega),wu a1,af,va1,af,b3,af,aF (by omega),wu b1,af,vb1,af];simp only;have Xr:∃V,(bif decide ((Vb.length:Int)<(Va.length:Int)) then some Vb else some Va)=some V/\V.length<=12/\∀x:Int,0<=x/\x<n->(x∈V↔bA n L k x=(if cmp n L k e.2<cmp n L k e.1 then bA n L k e.2 else bA n L k e.1)):=by
  by_cases hc:cmp n L k e.2<cmp n L k e.1
  ·rw [ak (by omega),if_pos hc];exact ⟨Vb,rfl,vb6,mb⟩
  ·rw [az (by omega),if_neg hc];exact ⟨Va,rfl,va6,ma⟩
 obtain ⟨V,hV,hVl,hVm⟩:=Xr;rw [hV,af,wrk k0 k4];have mX:(bif decide ((4:Int)<k+1) then some (4:Int) else some (k+1))=some (QU k):=by
  unfold QU;by_cases h:4<k+1
  ·rw [ak h,if_pos h];rfl
  ·rw [az h,if_neg h];rfl
 rw [mX,af,gQ];unfold sch;simp only;generalize (if cmp n L k e.2<cmp n L k e.1 then bA n L k e.2 else bA n L k e.1)=c at hVm ⊢;have hVd:∀x:Int,0<=x/\x<n->jP (V,x)=some (decide (bA n L k x=c),()):=fun x hx=>by
  rw [zG V x (by omega)];by_cases h:bA n L k x=c
  ·rw [ak h,ak ((hVm x hx).2 h)]
  ·rw [az h,az (fun h'=>h ((hVm x hx).1 h'))]
 have e1:=aa_ L (by omega) (lD (fun x=>decide (bA n L k x=c)) k) (kQ k) GM (fun (l:aa aC) (i:Nat)=>((l,(i:Int)):aa aC × Int)) (fun x=>x.2.toNat) (fun _ _=>by simp) (fun l=>l) (fun l _ _=>l) (F:=fun self12 x11=>
   bif decide (x11.2<(x11.1.length:Int)) then
    Option.bind (Option.bind (bnd x11.1.length x11.2 fun n13=>
     Option.bind x11.1[n13]? fun y14=>
     bif y14.2.2.2 then
      bnd x11.1.length x11.2 fun n15=>
      Option.bind x11.1[n15]? fun y16=>
      bif decide (y16.2.2.1=k) then
       bnd x11.1.length x11.2 fun n17=>
       Option.bind x11.1[n17]? fun y18=>
       Option.bind (jP (V,y18.1)) fun r19=>
       some r19.1
      else some false
     else some false:ah (Bool)) fun x20=>
     bif x20 then
      bnd x11.1.length x11.2 fun n21=>
      Option.bind x11.1[n21]? fun y22=>
      some (x11.1.set n21 (y22.1,y22.2.1,QU k,y22.2.2.2))
     else some x11.1:ah ((aa (Int × Int × Int × Bool)))) fun x23=>
    self12 (x23,IntKind.wrap .i64 (x11.2+(1:Int)))
   else some x11.1) (fun self out i y ho hy yl => ?_) (fun self out ho=>by simp [ho])
 ·rw [JW (GN _ _)] at e1;simp only at e1;have e1':(aJ BIG _ ((L,(0:Int)):aa aC × Int))=_:=e1;rw [e1',af,JW (GN _ _)];simp only;have hmr:∀y,y∈L.map (fun y=>if lD (fun x=>decide (bA n L k x=c)) k y=1 then kQ k y else y)->(0<=y.1/\y.1<n)/\(0<=y.2.1/\y.2.1<n):=by
   intro y hy;obtain ⟨z,hz,rfl⟩:=bX.1 hy;have:=agi hg ha hb k0 k4 hz;split
   ·exact this
   ·exact this
  have hml:(L.map (fun y=>if lD (fun x=>decide (bA n L k x=c)) k y=1 then kQ k y else y)).length=L.length:=by rw [dX]
  have VF:∀(i:Nat) y,(L.map (fun y=>if lD (fun x=>decide (bA n L k x=c)) k y=1 then kQ k y else y))[i]?=some y->∃y0,L[i]?=some y0/\y0.2.2.2=y.2.2.2/\(y.2.2.2=false->y0.2.2.1=y.2.2.1):=by
   intro i y hy;rw [kE,dh] at hy;obtain ⟨y0,h0,rfl⟩:=hy;refine ⟨y0,h0,?_,?_⟩
   ·split
    ·rfl
    ·rfl
   ·intro ht;split at ht
    ·rename_i hp;exfalso;unfold lD at hp;split at hp
     ·rename_i Q6;rw [show (kQ k y0).2.2.2=y0.2.2.2 from rfl,Q6.1] at ht;cases ht
     ·omega
    ·rename_i hp;rw [if_neg hp]
  generalize L.map (fun y=>if lD (fun x=>decide (bA n L k x=c)) k y=1 then kQ k y else y)=M at hmr hml VF;have e2:=aa_ M (by omega) (fZ (fun x=>decide (bA n L k x=c)) k) (kQ k) GM (fun (l:aa aC) (i:Nat)=>((l,(i:Int)):aa aC × Int)) (fun x=>x.2.toNat) (fun _ _=>by simp) (fun l=>Sum.inl l) (fun l j _=>Sum.inr (l,(j:Int))) (F:=fun self26 x25=>
   bif decide (x25.2<(x25.1.length:Int)) then
    Option.bind (bnd x25.1.length x25.2 fun n27=>
     Option.bind x25.1[n27]? fun y28=>
     Option.bind (jP (V,y28.1)) fun r29=>
     bnd x25.1.length x25.2 fun n30=>
     Option.bind x25.1[n30]? fun y31=>
     Option.bind (jP (V,y31.2.1)) fun r32=>
     Option.bind (bnd L.length x25.2 fun n33=>
      Option.bind L[n33]? fun y34=>
      bif y34.2.2.2 then
       some true
      else bnd L.length x25.2 fun n35=>
      Option.bind L[n35]? fun y36=>
      bif !decide (y36.2.2.1=k) then
       some true
      else bif !r29.1 then
       some !r32.1
      else some false:ah (Bool)) fun x37=>
     bif x37 then
      some (Sum.inl x25.1)
     else Option.bind (bif r29.1 then
      some r32.1
      else some false:ah (Bool)) fun x38=>
     bif x38 then
      bnd x25.1.length x25.2 fun n39=>
      Option.bind x25.1[n39]? fun y40=>
      some (Sum.inl (x25.1.set n39 (y40.1,y40.2.1,QU k,y40.2.2.2)))
     else bnd x25.1.length x25.2 fun n41=>
     Option.bind x25.1[n41]? fun y42=>
     some (Sum.inr (x25.1.set n41 (y42.1,y42.2.1,y42.2.2.1,true),x25.2)):ah (((aa (Int × Int × Int × Bool))) ⊕ ((aa (Int × Int × Int × Bool)) × Int))) fun y=>match y with
    | .inl x43=>
     self26 (x43,IntKind.wrap .i64 (x25.2+(1:Int)))
    | .inr x43=>
     some (Sum.inr (x43.1,x43.2))
   else some (Sum.inl x25.1)) (fun self out i y ho hy yl => ?_) (fun self out ho=>by simp [ho])
  ·refine (Dg e2 _).trans ?_;cases (tQ M (fZ (fun x=>decide (bA n L k x=c)) k) (kQ k) GM).2 with
   | none=>rfl
   | some r=>rfl
  ·have hi:=(aZ hy).1;obtain ⟨q1,q2⟩:=hmr y (eY hy);obtain ⟨y0,o1,o2,o3⟩:=VF i y hy;have bo:∀{B:Type} {q:Nat->ah B},bnd out.length (i:Int) q=q i:=fun {B q}=>aF (by omega)
   have bL:∀{B:Type} {q:Nat->ah B},bnd L.length (i:Int) q=q i:=fun {B q}=>aF (by omega)
   simp only [show ((i:Int)<(out.length:Int)) from by omega,decide_true,ai,bo,bL,yl,o1,af,hVd y.1 q1,hVd y.2.1 q2,o2];rw [bT (by omega)];cases ht:y.2.2.2 with
   | true=>
    have hp:fZ (fun x=>decide (bA n L k x=c)) k y=0:=by unfold fZ;rw [if_pos (.inl ht)]
    rw [hp,if_neg (by omega),if_neg (by omega),set_self yl];rfl
   | false=>
    rw [o3 ht];simp only [ax];by_cases hk:y.2.2.1=k
    ·simp only [ak hk,bB,ax];by_cases hA:bA n L k y.1=c
     ·by_cases hB:bA n L k y.2.1=c
      ·have hp:fZ (fun x=>decide (bA n L k x=c)) k y=1:=by
        unfold fZ;rw [if_neg (by simp [ht,hk,hA]),if_pos (by simp [hA,hB])]
       rw [hp,if_neg (by omega),if_pos rfl];simp only [ak hA,ak hB,bB,ax,ai,af];unfold kQ;rw [ht]
      ·have hp:fZ (fun x=>decide (bA n L k x=c)) k y=2:=by
        unfold fZ;rw [if_neg (by simp [ht,hk,hA]),if_neg (by simp [hB])]
       rw [hp,if_pos rfl];simp only [ak hA,az hB,bB,ax,ai,af];rfl
     ·by_cases hB:bA n L k y.2.1=c
      ·have hp:fZ (fun x=>decide (bA n L k x=c)) k y=2:=by
        unfold fZ;rw [if_neg (by simp [ht,hk,hB]),if_neg (by simp [hA])]
       rw [hp,if_pos rfl];simp only [az hA,ak hB,gW,bB,ax,ai,af];rfl
      ·have hp:fZ (fun x=>decide (bA n L k x=c)) k y=0:=by
        unfold fZ;rw [if_pos (.inr (.inr ⟨az hA,az hB⟩))]
       rw [hp,if_neg (by omega),if_neg (by omega),set_self yl];simp only [az hA,az hB,gW,ai,af]
    ·have hp:fZ (fun x=>decide (bA n L k x=c)) k y=0:=by unfold fZ;rw [if_pos (.inr (.inl hk))]
     rw [hp,if_neg (by omega),if_neg (by omega),set_self yl];simp only [az hk,gW,ai,af]
 ·have hi:=(aZ hy).1;obtain ⟨q1,q2⟩:=agi hg ha hb k0 k4 (eY hy);have bo:∀{B:Type} {q:Nat->ah B},bnd out.length (i:Int) q=q i:=fun {B q}=>aF (by omega)
  simp only [show ((i:Int)<(out.length:Int)) from by omega,decide_true,ai,bo,yl,af,hVd y.1 q1];rw [bT (by omega),if_neg (GN _ _ _)];cases ht:y.2.2.2 with
  | false=>
   have hp:lD (fun x=>decide (bA n L k x=c)) k y=0:=by unfold lD;rw [if_neg (by simp [ht])]
   rw [hp,if_neg (by omega),set_self yl];rfl
  | true=>
   simp only [ai];by_cases hk:y.2.2.1=k
   ·simp only [ak hk,ai];by_cases hA:bA n L k y.1=c
    ·have hp:lD (fun x=>decide (bA n L k x=c)) k y=1:=by unfold lD;rw [if_pos ⟨ht,hk,ak hA⟩]
     rw [hp,if_pos rfl];simp only [ak hA,ai,af];unfold kQ;rw [ht]
    ·have hp:lD (fun x=>decide (bA n L k x=c)) k y=0:=by unfold lD;rw [if_neg (by simp [hA])]
     rw [hp,if_neg (by omega),set_self yl];simp only [az hA,ax,af]
   ·have hp:lD (fun x=>decide (bA n L k x=c)) k y=0:=by unfold lD;rw [if_neg (by simp [hk])]
    rw [hp,if_neg (by omega),set_self yl];simp only [az hk,ax,af]
end
theorem auz (L:aa aC) (x:aC) (hL:L.length<=1048576):O9 (L,x)=some (L.filter (fun y=>lsB (y.1,y.2.1) (x.1,x.2.1))++[x]++L.filter (fun y=>lsB (x.1,x.2.1) (y.1,y.2.1)),()):=by
 have hm:maxLen=9223372036854775807:=by decide
 have Cc:∀(p:aC->Bool) (i:Nat),((L.take i).filter p).length<=i:=fun p i=>by
  have:=qM p (L.take i);rw [iy] at this;omega
 have yJ:∀(p:aC->Bool) (i:Nat) (hi:i<L.length),(L.take (i+1)).filter p=(L.take i).filter p++(if p L[i]=true then [L[i]] else []):=fun p i hi=>by
  rw [rC hi,Ro];congr 1;by_cases h:p L[i]=true<;>simp [h]
 show O8 BIG _=_;rw [atj];refine dV (x:=([],(0:Int))) (P:=fun o=>o=some (L.filter (fun y=>lsB (y.1,y.2.1) (x.1,x.2.1))++[x]++L.filter (fun y=>lsB (x.1,x.2.1) (y.1,y.2.1)),())) (fun (s:aa aC × Int)=>∃i:Nat,s.2=(i:Int)/\i<=L.length/\s.1=(L.take i).filter (fun y=>lsB (y.1,y.2.1) (x.1,x.2.1))) (fun s=>L.length-s.2.toNat) (fun _ (b:aa aC)=>b=L.filter (fun y=>lsB (y.1,y.2.1) (x.1,x.2.1))) (by simp [BIG];omega) ⟨0,rfl,by omega,rfl⟩ (fun self s hx hs => ?_) (fun b hb => ?_)
 ·obtain ⟨out,jj⟩:=s;obtain ⟨i,h1,h2,h3⟩:=hx;simp only at h1 h2 h3 hs ⊢;subst h1 h3;by_cases hi:i<L.length
  ·have hfi:=Cc (fun y=>lsB (y.1,y.2.1) (x.1,x.2.1)) i;have bi:∀{B:Type} {q:Nat->ah B},bnd L.length (i:Int) q=q i:=fun {B q}=>aF hi
   simp only [show ((i:Int)<(L.length:Int)) from by omega,decide_true,ai,bi,aR hi,af];have hc:(bif decide (L[i].1<x.1) then some true else bif decide (L[i].1=x.1) then some (decide (L[i].2.1<x.2.1)) else some false)=some (lsB (L[i].1,L[i].2.1) (x.1,x.2.1)):=by
    unfold lsB;simp only;cases decide (L[i].1<x.1)<;>cases decide (L[i].1=x.1)<;>rfl
   rw [hc,af,bT (by omega)];have g_:=hs ((L.take (i+1)).filter (fun y=>lsB (y.1,y.2.1) (x.1,x.2.1)),((i+1:Nat):Int)) ⟨i+1,rfl,hi,rfl⟩ (by simp;omega);rw [yJ _ i hi] at g_;refine Eq.mpr ?_ g_;cases hp:lsB (L[i].1,L[i].2.1) (x.1,x.2.1) with
   | true=>
    simp only [ai,if_true];rw [ak (by simp only [bF,bQ];omega),ai,af]
   | false=>
    simp only [ax,iK,if_false,m_,af]
  ·simp only [show ¬((i:Int)<(L.length:Int)) from by omega,decide_false,ax];have:i=L.length:=by omega
   subst this;exact ⟨_,rfl,by rw [ow]⟩
 ·subst hb;have h0:=qM (fun y=>lsB (y.1,y.2.1) (x.1,x.2.1)) L;rw [ak (by simp only [bF,bQ];omega),ai];refine dV (x:=(L.filter (fun y=>lsB (y.1,y.2.1) (x.1,x.2.1))++[x],(0:Int))) (P:=fun o=>o=some (L.filter (fun y=>lsB (y.1,y.2.1) (x.1,x.2.1))++[x]++L.filter (fun y=>lsB (x.1,x.2.1) (y.1,y.2.1)),())) (fun (s:aa aC × Int)=>∃i:Nat,s.2=(i:Int)/\i<=L.length/\s.1=L.filter (fun y=>lsB (y.1,y.2.1) (x.1,x.2.1))++[x]++(L.take i).filter (fun y=>lsB (x.1,x.2.1) (y.1,y.2.1))) (fun s=>L.length-s.2.toNat) (fun _ (b:aa aC)=>b=L.filter (fun y=>lsB (y.1,y.2.1) (x.1,x.2.1))++[x]++L.filter (fun y=>lsB (x.1,x.2.1) (y.1,y.2.1))) (by simp [BIG];omega) ⟨0,rfl,by omega,by simp⟩ (fun self s hx hs => ?_) (fun b hb=>by rw [hb]);obtain ⟨out,jj⟩:=s;obtain ⟨i,h1,h2,h3⟩:=hx;simp only at h1 h2 h3 hs ⊢;subst h1 h3;by_cases hi:i<L.length
  ·have hfi:=Cc (fun y=>lsB (x.1,x.2.1) (y.1,y.2.1)) i;have bi:∀{B:Type} {q:Nat->ah B},bnd L.length (i:Int) q=q i:=fun {B q}=>aF hi
   simp only [show ((i:Int)<(L.length:Int)) from by omega,decide_true,ai,bi,aR hi,af];have hc:(bif decide (x.1<L[i].1) then some true else bif decide (L[i].1=x.1) then some (decide (x.2.1<L[i].2.1)) else some false)=some (lsB (x.1,x.2.1) (L[i].1,L[i].2.1)):=by
    unfold lsB;simp only;have:decide (L[i].1=x.1)=decide (x.1=L[i].1):=by
     by_cases h:L[i].1=x.1
     ·rw [ak h,ak h.symm]
     ·rw [az h,az (fun h'=>h h'.symm)]
    rw [this];cases decide (x.1<L[i].1)<;>cases decide (x.1=L[i].1)<;>rfl
   rw [hc,af,bT (by omega)];have g_:=hs (L.filter (fun y=>lsB (y.1,y.2.1) (x.1,x.2.1))++[x]++(L.take (i+1)).filter (fun y=>lsB (x.1,x.2.1) (y.1,y.2.1)),((i+1:Nat):Int)) ⟨i+1,rfl,hi,rfl⟩ (by simp;omega);rw [yJ _ i hi,<-lK] at g_;refine Eq.mpr ?_ g_;cases hp:lsB (x.1,x.2.1) (L[i].1,L[i].2.1) with
   | true=>
    simp only [ai,if_true];rw [ak (by simp only [dP,bF,bQ];omega),ai,af]
   | false=>
    simp only [ax,iK,if_false,m_,af]
  ·simp only [show ¬((i:Int)<(L.length:Int)) from by omega,decide_false,ax];have:i=L.length:=by omega
   subst this;exact ⟨_,rfl,by rw [ow]⟩
theorem put_eq {L:aa aC} {e:Ed} (hs:uA (gE L)) (aX:e∉gE L) {k:Nat} (hk:k<=L.length) (h1:∀j (hj:j<L.length),j<k->lsB (L[j].1,L[j].2.1) e=true) (h2:∀hj:k<L.length,lsB (L[k].1,L[k].2.1) e=false) :
  L.filter (fun y=>lsB (y.1,y.2.1) e)=L.take k/\L.filter (fun y=>lsB e (y.1,y.2.1))=L.drop k:=by
 have ayx:∀a b:Ed,lsB a b=true->lsB b a=false:=by
  intro a b h;cases hb:lsB b a with
  | false=>rfl
  | true=>
   exfalso;simp only [lsB,iT,aU,decide_eq_true_eq] at h hb;omega
 have hT:∀y,y∈L.take k->lsB (y.1,y.2.1) e=true:=by
  intro y hy;obtain ⟨j,hj,rfl⟩:=FI.1 hy;rw [iy] at hj;rw [List.getElem_take];exact h1 j (by omega) (by omega)
 have hgl:(gE L).length=L.length:=by unfold gE;rw [dX]
 have J2:∀j (hj:j<L.length),(gE L)[j]'(by omega)=(L[j].1,L[j].2.1):=fun j hj=>by unfold gE;rw [List.getElem_map]
 have hD:∀y,y∈L.drop k->lsB e (y.1,y.2.1)=true:=by
  intro y hy;obtain ⟨j,hj,rfl⟩:=FI.1 hy;rw [sN] at hj;rw [List.getElem_drop];have Q7:k<L.length:=by omega
  have hk2:lsB e (L[k].1,L[k].2.1)=true:=by
   cases hb:lsB e (L[k].1,L[k].2.1) with
   | true=>rfl
   | false=>
    have:=Sa (h2 Q7) hb;exact absurd (bX.2 ⟨L[k],nH Q7,this⟩) aX
  by_cases hj0:j=0
  ·subst hj0;exact hk2
  ·have:=Rj.1 hs k (k+j) (by omega) (by omega) (by omega);rw [J2 k Q7,J2 (k+j) (by omega)] at this;exact Bf hk2 this
 constructor
 ·conv=>lhs;rw [<-Kb k L,Ro]
  rw [List.filter_eq_self.2 hT,List.filter_eq_nil_iff.2 (fun y hy=>by rw [ayx _ _ (hD y hy)];simp),m_]
 ·conv=>lhs;rw [<-Kb k L,Ro]
  rw [List.filter_eq_self.2 hD,List.filter_eq_nil_iff.2 (fun y hy=>by rw [ayx _ _ (hT y hy)];simp),gQ]
theorem Xk (n:Int) (L:aa aC) (e:Ed) (hL:L.length<=1000000):∃r:Int × aa aC × Bool,wh ((n,L),e)=some (r,())/\Bb ((n,L),e)=some (r,())/\r.2.1.length<=67/\(¬(0<=n/\WOk n.toNat L/\eF n e=true/\e∉gE L)->r=(0,[],false))/\((0<=n/\WOk n.toNat L/\eF n e=true/\e∉gE L)->r=(n,L.filter (fun y=>lsB (y.1,y.2.1) e)++[(e.1,e.2,0,!decide (bA n.toNat L 0 e.1=bA n.toNat L 0 e.2))]++L.filter (fun y=>lsB e (y.1,y.2.1)),true)):=by
 have hm:maxLen=9223372036854775807:=by decide
 have hgl:(gE L).length=L.length:=by unfold gE;rw [dX]
 have hGi:lV (n,L)=some ((n,gE L),()):=CV n L (by omega);have hGs:lU (n,L)=some ((n,gE L),()):=xR n L (by omega);obtain ⟨b,b1,b2⟩:=Fe n L (by omega);obtain ⟨b',b1',b2'⟩:=Fg n L (by omega);have Rh:b'=b:=by cases b<;>cases b'<;>simp_all
 subst Rh;show ∃r:Int × aa aC × Bool,Qt BIG _=_/\O_ BIG _=_/\_;rw [atS,atm,hGi,hGs,af,af];simp only;simp only [aqJ n (gE L) e (by omega),aqK n (gE L) e (by omega),b1,b1',af];cases b' with
 | false=>exact ⟨_,rfl,rfl,by simp,fun _=>rfl,fun h=>absurd (b2.2 ⟨h.1,h.2.1⟩) (by simp)⟩
 | true=>
  obtain ⟨n0,hw⟩:=b2.1 rfl;obtain ⟨m,rfl⟩:∃m:Nat,n=(m:Int):=⟨n.toNat,by omega⟩
  rw [il] at hw;have hg:=hw.gr;obtain ⟨h1,dO⟩:=zI hg;obtain ⟨mD,VH,Rf⟩:=jY hg;have akt:uA (gE L):=by
   have h:=hg;unfold jT at h;rw [aU] at h;exact (lc h.2).2.1
  simp only [bB,ax];unfold Mj;rw [hg,dY];by_cases hc:(eF (m:Int) e && !decide (e∈gE L))=true;case neg=>
   rw [if_neg hc];exact ⟨_,rfl,rfl,by simp,fun _=>rfl,fun h=>absurd (by rw [h.2.2.1,az h.2.2.2];rfl) hc⟩
  rw [if_pos hc];simp only [aU,sK,decide_eq_false_iff_not] at hc;obtain ⟨he,aX⟩:=hc;have iX:=fK he;simp only [bB,af,ax];have hll:=dU m (aM L 0);rw [uC L 0 dO (by omega) (jA hg 0),af];simp only
  -- the place
  have hkk:L.findIdx (fun y=>!lsB (y.1,y.2.1) e)<=L.length:=List.findIdx_le_length;have VE:∀j (hj:j<L.length),j<L.findIdx (fun y=>!lsB (y.1,y.2.1) e)->lsB (L[j].1,L[j].2.1) e=true:=by
   intro j hj bR;have:=List.not_of_lt_findIdx bR;simpa using this
  have hps:∀hj:L.findIdx (fun y=>!lsB (y.1,y.2.1) e)<L.length,lsB (L[L.findIdx (fun y=>!lsB (y.1,y.2.1) e)].1,L[L.findIdx (fun y=>!lsB (y.1,y.2.1) e)].2.1) e=false:=by
   intro hj;have:=XB (w:=hj);simpa using this
  generalize L.findIdx (fun y=>!lsB (y.1,y.2.1) e)=kk at hkk VE hps;obtain ⟨q1,q2⟩:=put_eq akt aX hkk VE hps;have aDx:aJ BIG (fun self6 x5=>
   Option.bind (bif decide (x5<(L.length:Int)) then
    bnd L.length x5 fun n7=>
    Option.bind L[n7]? fun y8=>
    bnd L.length x5 fun n9=>
    Option.bind L[n9]? fun y10=>
    Option.bind (zt ((y8.1,y10.2.1),e)) fun r11=>
    some r11.1
    else some false:ah (Bool)) fun x12=>
   bif x12 then
    self6 (IntKind.wrap .i64 (x5+(1:Int)))
   else some x5) (0:Int)=some ((kk:Nat):Int):=by
   refine ky (fun (x:Int)=>∃i:Nat,x=(i:Int)/\i<=kk) (fun x=>kk-x.toNat) (fun _=>((kk:Nat):Int)) (fun self x ⟨i,h1,h2⟩ hs => ?_) (n:=BIG) (x:=0) (by simp [BIG];omega) ⟨0,rfl,by omega⟩;subst h1;by_cases hi:i<L.length
   ·have bi:∀{B:Type} {q:Nat->ah B},bnd L.length (i:Int) q=q i:=fun {B q}=>aF hi
    simp only [show ((i:Int)<(L.length:Int)) from by omega,decide_true,ai,bi,aR hi,af,Xd];by_cases hik:i<kk
    ·rw [VE i hi hik,ai,bT (by omega)];exact hs _ ⟨i+1,rfl,hik⟩ (by simp;omega)
    ·have:i=kk:=by omega
     subst this;rw [hps hi,ax]
   ·have:i=kk:=by omega
    subst this;simp only [show ¬((i:Int)<(L.length:Int)) from by omega,decide_false,ax,af]
  rw [aDx,af];have gA:∀{B:Type} {q:Nat->ah B} {v:Int},0<=v/\v<m->bnd (labs m (aM L 0)).length v q=q v.toNat:=fun h=>bV h.1 (by omega)
  have gV:∀{v:Int},0<=v/\v<m->(labs m (aM L 0))[v.toNat]?=some (bA m L 0 v):=fun h=>getD_at (by omega)
  have hcp:xN ((m:Int),L.take kk)=some (((m:Int),L.take kk),()):=by
   show CR BIG _=_;rw [aaD,ak (by simp only [iy];omega)];rfl
  have hdr:List.take (L.length-kk) (L.drop kk)=L.drop kk:=Rk (by rw [sN];omega);rw [ak (by omega),ai,il,ak (by omega),ai,t_,uI,hcp,af,gA ⟨iX.1,iX.2.1⟩,gV ⟨iX.1,iX.2.1⟩,af,gA ⟨iX.2.2.1,iX.2.2.2.1⟩,gV ⟨iX.2.2.1,iX.2.2.2.1⟩,af,hdr];simp only;rw [ak (by simp only [iy,bF,bQ];omega),ai,ak (by omega),ai,ak (by simp only [dP,iy,sN,bF,bQ];omega),ai];have aku:0<=(m:Int)/\WOk (m:Int).toNat L/\eF (m:Int) e=true/\e∉gE L:=⟨n0,by rw [il];exact hw,he,aX⟩
  refine ⟨_,rfl,?_,?_,fun h=>absurd aku h,fun _ => ?_⟩
  rotate_right
  ·rw [q1,q2,il]
  ·-- the reference
   obtain ⟨hE,hEn,hEl⟩:=GL hg 0;obtain ⟨r,b,r1,r2,r3⟩:=Aq (n:=m) L 0 h1 dO (by omega) hE;obtain ⟨Fs,rfl,hF⟩:=r3 (r2.2 hw.nc);obtain ⟨ja,pa,a1,a2,a3⟩:=sw hE hF dO h1 e.1 iX.1 iX.2.1;obtain ⟨jb,pb,c1,c2,c3⟩:=sw hE hF dO h1 e.2 iX.2.2.1 iX.2.2.2.1;have ME:((ja:Int)=(jb:Int))↔bA m L 0 e.1=bA m L 0 e.2:=by
    rw [lg hg 0 ⟨iX.1,iX.2.1⟩ ⟨iX.2.2.1,iX.2.2.2.1⟩];constructor
    ·intro h;have:ja=jb:=by omega
     subst this;rw [a1,aN] at c1;subst c1;have hG:=hF.gt pa (eY a1);exact ((hG.con hE _).1 a2).symm.trans ((hG.con hE _).1 c2)
    ·intro h;have:=hF.idx hE a1 c1 a2 c2 h;omega
   have hd:decide ((ja:Int)=(jb:Int))=decide (bA m L 0 e.1=bA m L 0 e.2):=by
    by_cases h:bA m L 0 e.1=bA m L 0 e.2
    ·rw [ak h,ak (ME.2 h)]
    ·rw [az h,az (fun h'=>h (ME.1 h'))]
   rw [r1,af];simp only;rw [a3,af,c3,af,auz _ _ (by omega),af];simp only;rw [q1,q2,hd]
  ·simp only [dP,iy,sN,bF,bQ];omega
theorem azP {L:aa aC} {p:aC->Nat} {rz hz:aC->aC} {j:Nat} {y:aC} (h:(tQ L p rz hz).2=some (j,y)):(tQ L p rz hz).1[j]?=some y:=by
 unfold tQ at h ⊢;split at h
 ·rename_i bR;simp only [aN,di] at h;obtain ⟨rfl,rfl⟩:=h;rw [dif_pos bR];simp only;rw [uT (by rw [dX,iy];exact Nat.min_le_left ..),dX,iy,Nat.min_eq_left (Nat.le_of_lt bR),Nat.sub_self];rfl
 ·cases h
def xX (n:Nat) (e:Ed):Nat->aa aC->aa aC × ah aC
 | 0,L=>(L,none)
 | k+1,L=>match (sch n L e (k:Int)).2 with
  | none=>xX n e k (sch n L e (k:Int)).1
  | some (_,y)=>((sch n L e (k:Int)).1,some y)
theorem an1 (n:Nat) (L:aa aC) (e:Ed) (k:Int):(sch n L e k).1.length=L.length:=by
 unfold sch;simp only;rw [anZ,anZ]
theorem ajK (n:Nat) (e:Ed):∀(k:Nat) (L:aa aC),(xX n e k L).1.length=L.length
 | 0,L=>rfl
 | k+1,L=>by
  unfold xX;split
  ·rw [ajK n e k,an1]
  ·exact an1 ..
structure SOk (n:Nat) (L:List aC):Prop where
 gr:jT n (gE L)=true
 nc:NoCyc (qc L)
theorem aDm (L:aa aC) (k:Int):∀e,e∈aM L k->e∈qc L:=by
 intro e he;unfold aM at he;unfold qc;rw [bX] at he ⊢;obtain ⟨x,h1,h2⟩:=he;simp only [jK,aU] at h1;exact ⟨x,jK.2 ⟨h1.1,h1.2.1⟩,h2⟩
theorem aba (n:Nat) (L:aa aC) (e:Ed) (k:Int):gE (sch n L e k).1=gE L:=by
 unfold sch;simp only;rw [auy (rz:=kQ k) (hz:=GM) (fun _=>rfl) (fun _=>rfl),auy (rz:=kQ k) (hz:=GM) (fun _=>rfl) (fun _=>rfl)]
theorem azQ {n:Nat} {L:aa aC} {e:Ed} {k:Int} (h:(sch n L e k).2=none):qc (sch n L e k).1=qc L:=by
 unfold sch at h ⊢;simp only at h ⊢;rw [an0 (rz:=kQ k) (hz:=GM) (fun _=>rfl) (fun _=>rfl) h,an0 (rz:=kQ k) (hz:=GM) (fun _=>rfl) (fun _=>rfl) (by rw [JW (GN _ _)])]
theorem SOk.sch {n:Nat} {L:aa aC} (h:SOk n L) {e:Ed} {k:Int} (hn:(sch n L e k).2=none):SOk n (sch n L e k).1:=⟨by rw [aba];exact h.gr,by rw [azQ hn];exact h.nc⟩
def ko (e:Ed) (s:aC × aa aC) (y:aC):aC × aa aC:=if y.1=e.1/\y.2.1=e.2 then (y,s.2) else (s.1,s.2++[y])
theorem Sm (e:Ed):∀(L:aa aC) (o:aC) (acc:aa aC),(L.foldl (ko e) (o,acc)).2=acc++L.filter (fun y=>decide ((y.1,y.2.1)≠e))/\((L.foldl (ko e) (o,acc)).1=o\/((L.foldl (ko e) (o,acc)).1∈L/\((L.foldl (ko e) (o,acc)).1.1,(L.foldl (ko e) (o,acc)).1.2.1)=e))/\((∃y,y∈L/\(y.1,y.2.1)=e)->(L.foldl (ko e) (o,acc)).1∈L/\((L.foldl (ko e) (o,acc)).1.1,(L.foldl (ko e) (o,acc)).1.2.1)=e)
 | [],o,acc=>by simp
 | x::L,o,acc=>by
  rw [gH]
  by_cases hx:x.1=e.1/\x.2.1=e.2
  ·have hxe:(x.1,x.2.1)=e:=by rw [hx.1,hx.2]
   have hs:ko e (o,acc) x=(x,acc):=by unfold ko;rw [if_pos hx]
   rw [hs]
   obtain ⟨h1,h2,h3⟩:=Sm e L x acc
   have h4:(L.foldl (ko e) (x,acc)).1∈x::L/\((L.foldl (ko e) (x,acc)).1.1,(L.foldl (ko e) (x,acc)).1.2.1)=e:=by
    rcases h2 with h2|h2
    ·rw [h2];exact ⟨dW ..,hxe⟩
    ·exact ⟨dQ _ h2.1,h2.2⟩
   exact ⟨by rw [h1,List.filter_cons_of_neg (by simp [hxe])],.inr h4,fun _=>h4⟩
  ·have hxe:(x.1,x.2.1)≠e:=fun h=>hx ⟨by rw [<-h],by rw [<-h]⟩
   have hs:ko e (o,acc) x=(o,acc++[x]):=by unfold ko;rw [if_neg hx]
   rw [hs]
   obtain ⟨h1,h2,h3⟩:=Sm e L o (acc++[x])
   refine ⟨?_,?_,fun h => ?_⟩
   ·rw [h1,List.filter_cons_of_pos (by simpa using hxe)]
    simp
   ·rcases h2 with h2|h2
    ·exact .inl h2
    ·exact .inr ⟨dQ _ h2.1,h2.2⟩
   ·obtain ⟨y,hy,uF⟩:=h
    rw [aY] at hy
    rcases hy with rfl|hy
    ·exact absurd uF hxe
    ·have:=h3 ⟨y,hy,uF⟩
     exact ⟨dQ _ this.1,this.2⟩
theorem auA (e:Ed) (L:aa aC) (i:Nat):((L.take i).foldl (ko e) (((0:Int),(0:Int),(0:Int),false),[])).2.length<=i:=by
 rw [(Sm e (L.take i) _ []).1];have:=qM (fun y:aC=>decide ((y.1,y.2.1)≠e)) (L.take i);rw [iy] at this;rw [gQ];omega
def lvR (n:Nat) (t:aa aC × ah aC):((Int × aa aC) × (Int × aa aC) × (Int × Int)) ⊕ ((Int × aa aC) × (Int × Int) × Bool × Bool):=
 match t.2 with
 | none=>.inl (((n:Int),t.1),((0:Int),[]),((0:Int),(0:Int)))
 | some y=>.inr (((n:Int),t.1),(y.1,y.2.1),true,true)
section
variable {n:Nat} {e:Ed} (ha:0<=e.1/\e.1<n) (hb:0<=e.2/\e.2<n)
include ha hb
theorem aE9 (k:Nat) (hk:k<=5) (L:aa aC) (hS:SOk n L):aJ BIG (fun self12 x11=>
  Option.bind (bif decide ((0:Int)<=x11.2.2.2) then
   some true
   else some false:ah (Bool)) fun x13=>
  bif x13 then
   Option.bind (qB (x11.1,e,x11.2.2.2)) fun r14=>
   bif r14.1.2.2 then
    some (Sum.inr (r14.2,(r14.1.1,r14.1.2.1),true,true))
   else self12 (r14.2,x11.2.1,x11.2.2.1,IntKind.wrap .i64 (x11.2.2.2-(1:Int)))
  else some (Sum.inl (x11.1,x11.2.1,x11.2.2.1))) ((((n:Int),L),((0:Int),[]),((0:Int),(0:Int)),(k:Int)-1):(Int × aa aC) × (Int × aa aC) × (Int × Int) × Int)=some (lvR n (xX n e k L)):=by
 have hm:maxLen=9223372036854775807:=by decide
 refine Exists.elim (pR (F:=fun self12 x11=>
  Option.bind (bif decide ((0:Int)<=x11.2.2.2) then
   some true
   else some false:ah (Bool)) fun x13=>
  bif x13 then
   Option.bind (qB (x11.1,e,x11.2.2.2)) fun r14=>
   bif r14.1.2.2 then
    some (Sum.inr (r14.2,(r14.1.1,r14.1.2.1),true,true))
   else self12 (r14.2,x11.2.1,x11.2.2.1,IntKind.wrap .i64 (x11.2.2.2-(1:Int)))
  else some (Sum.inl (x11.1,x11.2.1,x11.2.2.1))) (fun (x:(Int × aa aC) × (Int × aa aC) × (Int × Int) × Int)=>∃(k:Nat) (L:aa aC),x=(((n:Int),L),((0:Int),[]),((0:Int),(0:Int)),(k:Int)-1)/\k<=5/\SOk n L) (fun x=>(x.2.2.2+1).toNat)
  (fun x b=>∀(k:Nat) (L:aa aC),x=(((n:Int),L),((0:Int),[]),((0:Int),(0:Int)),(k:Int)-1)->b=lvR n (xX n e k L)) (fun self x hx hs => ?_) (n:=BIG) (x:=(((n:Int),L),((0:Int),[]),((0:Int),(0:Int)),(k:Int)-1)) (by simp [BIG];omega) ⟨k,L,rfl,hk,hS⟩) fun b Rh => ?_
 rotate_left
 ·rw [Rh.1,Rh.2 k L rfl]
 ·obtain ⟨k,L,rfl,hk,hS⟩:=hx;simp only at hs ⊢;have uniq:∀{k':Nat} {L':aa aC} ,((((n:Int),L),((0:Int),[]),((0:Int),(0:Int)),(k:Int)-1):(Int × aa aC) × (Int × aa aC) × (Int × Int) × Int)=(((n:Int),L'),((0:Int),[]),((0:Int),(0:Int)),(k':Int)-1)->k'=k/\L'=L:=by
   intro k' L' h;simp only [di,true_and] at h;exact ⟨by omega,h.1.symm⟩
  cases k with
  | zero=>
   rw [az (by omega),ax,af,ax];refine ⟨_,rfl,fun k' L' h => ?_⟩;obtain ⟨rfl,rfl⟩:=uniq h;rfl
  | succ k=>
   have FH:((k+1:Nat):Int)-1=(k:Int):=by omega
   rw [FH,ak (by omega),ai,af,ai,aBA hS.gr ha hb (by omega) (by omega),af];cases uD:(sch n L e (k:Int)).2 with
   | none=>
    simp only [ax];rw [wr (by omega) (by omega)];obtain ⟨b,g1,g2⟩:=hs (((n:Int),(sch n L e (k:Int)).1),((0:Int),[]),((0:Int),(0:Int)),(k:Int)-1) ⟨k,_,rfl,by omega,hS.sch uD⟩ (by simp only;omega);refine ⟨b,g1,fun k' L' h => ?_⟩;rw [<-FH] at h;obtain ⟨rfl,rfl⟩:=uniq h;rw [g2 k _ rfl];show _=lvR n (match (sch n L' e (k:Int)).2 with|none=>_|some (_,y)=>_);rw [uD]
   | some r=>
    obtain ⟨j,y⟩:=r;simp only [ai];refine ⟨_,rfl,fun k' L' h => ?_⟩;rw [<-FH] at h;obtain ⟨rfl,rfl⟩:=uniq h;show _=lvR n (match (sch n L' e (k:Int)).2 with|none=>_|some (_,y)=>_);rw [uD];rfl
theorem aE_ (k:Nat) (hk:k<=5) (L:aa aC) (hS:SOk n L):aJ BIG (fun self18 x17=>
  bif decide ((0:Int)<=x17.2.2.2) then
   Option.bind (rZ (x17.1,e,x17.2.2.2)) fun r19=>
   bif decide ((0:Int)<=r19.1.2) then
    bnd r19.1.1.length r19.1.2 fun n20=>
    Option.bind r19.1.1[n20]? fun y21=>
    bnd r19.1.1.length r19.1.2 fun n22=>
    Option.bind r19.1.1[n22]? fun y23=>
    some (Sum.inr ((x17.1.1,r19.1.1),(y21.1,y23.2.1),true,true))
   else self18 ((x17.1.1,r19.1.1),x17.2.1,x17.2.2.1,IntKind.wrap .i64 (x17.2.2.2-(1:Int)))
  else some (Sum.inl (x17.1,x17.2.1,x17.2.2.1))) ((((n:Int),L),((0:Int),[]),((0:Int),(0:Int)),(k:Int)-1):(Int × aa aC) × (Int × aa aC) × (Int × Int) × Int)=some (lvR n (xX n e k L)):=by
 have hm:maxLen=9223372036854775807:=by decide
 refine Exists.elim (pR (F:=fun self18 x17=>
  bif decide ((0:Int)<=x17.2.2.2) then
   Option.bind (rZ (x17.1,e,x17.2.2.2)) fun r19=>
   bif decide ((0:Int)<=r19.1.2) then
    bnd r19.1.1.length r19.1.2 fun n20=>
    Option.bind r19.1.1[n20]? fun y21=>
    bnd r19.1.1.length r19.1.2 fun n22=>
    Option.bind r19.1.1[n22]? fun y23=>
    some (Sum.inr ((x17.1.1,r19.1.1),(y21.1,y23.2.1),true,true))
   else self18 ((x17.1.1,r19.1.1),x17.2.1,x17.2.2.1,IntKind.wrap .i64 (x17.2.2.2-(1:Int)))
  else some (Sum.inl (x17.1,x17.2.1,x17.2.2.1))) (fun (x:(Int × aa aC) × (Int × aa aC) × (Int × Int) × Int)=>∃(k:Nat) (L:aa aC),x=(((n:Int),L),((0:Int),[]),((0:Int),(0:Int)),(k:Int)-1)/\k<=5/\SOk n L) (fun x=>(x.2.2.2+1).toNat)
  (fun x b=>∀(k:Nat) (L:aa aC),x=(((n:Int),L),((0:Int),[]),((0:Int),(0:Int)),(k:Int)-1)->b=lvR n (xX n e k L)) (fun self x hx hs => ?_) (n:=BIG) (x:=(((n:Int),L),((0:Int),[]),((0:Int),(0:Int)),(k:Int)-1)) (by simp [BIG];omega) ⟨k,L,rfl,hk,hS⟩) fun b Rh => ?_
 rotate_left
 ·rw [Rh.1,Rh.2 k L rfl]
 ·obtain ⟨k,L,rfl,hk,hS⟩:=hx;simp only at hs ⊢;have uniq:∀{k':Nat} {L':aa aC} ,((((n:Int),L),((0:Int),[]),((0:Int),(0:Int)),(k:Int)-1):(Int × aa aC) × (Int × aa aC) × (Int × Int) × Int)=(((n:Int),L'),((0:Int),[]),((0:Int),(0:Int)),(k':Int)-1)->k'=k/\L'=L:=by
   intro k' L' h;simp only [di,true_and] at h;exact ⟨by omega,h.1.symm⟩
  cases k with
  | zero=>
   rw [az (by omega),ax];refine ⟨_,rfl,fun k' L' h => ?_⟩;obtain ⟨rfl,rfl⟩:=uniq h;rfl
  | succ k=>
   have FH:((k+1:Nat):Int)-1=(k:Int):=by omega
   rw [FH,ak (by omega),ai,awt hS.gr ha hb (by omega) (by omega) (hS.nc.sub (aDm L k)),af];cases uD:(sch n L e (k:Int)).2 with
   | none=>
    simp only;rw [az (by omega),ax,wr (by omega) (by omega)];obtain ⟨b,g1,g2⟩:=hs (((n:Int),(sch n L e (k:Int)).1),((0:Int),[]),((0:Int),(0:Int)),(k:Int)-1) ⟨k,_,rfl,by omega,hS.sch uD⟩ (by simp only;omega);refine ⟨b,g1,fun k' L' h => ?_⟩;rw [<-FH] at h;obtain ⟨rfl,rfl⟩:=uniq h;rw [g2 k _ rfl];show _=lvR n (match (sch n L' e (k:Int)).2 with|none=>_|some (_,y)=>_);rw [uD]
   | some r=>
    obtain ⟨j,y⟩:=r;have hj:(sch n L e (k:Int)).1[j]?=some y:=azP uD;have uE:=(aZ hj).1;have bj:∀{B:Type} {q:Nat->ah B},bnd (sch n L e (k:Int)).1.length (j:Int) q=q j:=fun {B q}=>aF uE
    simp only;rw [ak (by omega),ai];simp only [bj,hj,af];refine ⟨_,rfl,fun k' L' h => ?_⟩;rw [<-FH] at h;obtain ⟨rfl,rfl⟩:=uniq h;show _=lvR n (match (sch n L' e (k:Int)).2 with|none=>_|some (_,y)=>_);rw [uD];rfl
end
theorem QV (n : Int) (L : aa aC) (e : Ed) (hL : L.length ≤ 1000000) : ∃ r : Int × aa aC × Int × Int × Bool × Bool, jR ((n, L), e) = some (r, ()) ∧ kI ((n, L), e) = some (r, ()) ∧ r.2.1.length ≤ 66 ∧ (¬ (0 ≤ n ∧ WOk n.toNat L ∧ e ∈ gE L) → r = (0, [], 0, 0, false, false)) ∧ ((0 ≤ n ∧ WOk n.toNat L ∧ e ∈ gE L) → ∃ old, old ∈ L ∧ (old.1, old.2.1) = e ∧ r.1 = n ∧ r.2.2.2.2.2 = true ∧ r.2.1 = if old.2.2.2 = true then (xX n.toNat e (old.2.2.1.toNat + 1) (L.filter fun y => decide ((y.1, y.2.1) ≠ e))).1 else L.filter fun y => decide ((y.1, y.2.1) ≠ e)) := by
  have hm : maxLen = 9223372036854775807 := by decide
  have hgl : (gE L).length = L.length := by unfold gE; rw [dX]
  have hGi : lV (n, L) = some ((n, gE L), ()) := CV n L (by omega);have hGs : lU (n, L) = some ((n, gE L), ()) := xR n L (by omega);obtain ⟨b, b1, b2⟩ := Fe n L (by omega);obtain ⟨b', b1', b2'⟩ := Fg n L (by omega);have Rh : b' = b := by cases b <;> cases b' <;> simp_all
  subst Rh;show ∃ r : Int × aa aC × Int × Int × Bool × Bool, LX BIG _ = _ ∧ Ll BIG _ = _ ∧ _;rw [aqx, ap0, b1, b1', af, af, hGi, hGs];cases b' with
  | false => exact ⟨_, rfl, rfl, by simp, fun _ => rfl, fun h => absurd (b2.2 ⟨h.1, h.2.1⟩) (by simp)⟩
  | true =>
    obtain ⟨n0, hw⟩ := b2.1 rfl;obtain ⟨m, rfl⟩ : ∃ m : Nat, n = (m : Int) := ⟨n.toNat, by omega⟩
    rw [il] at hw;have hg := hw.gr;obtain ⟨h1, dO⟩ := zI hg;obtain ⟨mD, VH, Rf⟩ := jY hg;simp only [bB, ax, af];rw [aaX _ _ _ (by omega), aaW _ _ _ (by omega), af, af];by_cases bn : e ∈ gE L;case neg =>
      rw [az bn];exact ⟨_, rfl, rfl, by simp, fun _ => rfl, fun h => absurd h.2.2 bn⟩
    rw [ak bn];simp only [bB, ax, af];have iX := fK (mD e bn)
    -- the lost one and the others
    have li : aJ BIG (fun self5 x4 =>
    bif decide (x4.2.2 < (L.length : Int)) then
     Option.bind (bnd L.length x4.2.2 fun n6 =>
      Option.bind L[n6]? fun y7 =>
      Option.bind (bif decide (y7.1 = e.1) then
        some (decide (y7.2.1 = e.2))
       else some false : ah (Bool)) fun x8 =>
      bif x8 then
       some (y7, x4.2.1)
      else bif decide (x4.2.1.2.length + [y7].length ≤ 4294967296) then
       some (x4.1, (x4.2.1.1, x4.2.1.2 ++ [y7]))
      else none : ah ((Int × Int × Int × Bool) × (Int × aa (Int × Int × Int × Bool)))) fun x9 =>
     self5 (x9.1, x9.2, IntKind.wrap .i64 (x4.2.2 + (1 : Int)))
    else some (x4.1, x4.2.1)) ((((0 : Int), (0 : Int), (0 : Int), false), ((m : Int), []), (0 : Int)) : aC × (Int × aa aC) × Int) = some ((L.foldl (ko e) (((0 : Int), (0 : Int), (0 : Int), false), [])).1, ((m : Int), (L.foldl (ko e) (((0 : Int), (0 : Int), (0 : Int), false), [])).2)) := by
      refine ky (fun (x : aC × (Int × aa aC) × Int) => ∃ i : Nat, i ≤ L.length ∧ x = (((L.take i).foldl (ko e) (((0 : Int), (0 : Int), (0 : Int), false), [])).1, ((m : Int), ((L.take i).foldl (ko e) (((0 : Int), (0 : Int), (0 : Int), false), [])).2), (i : Int))) (fun x => L.length - x.2.2.toNat) (fun _ => _) (fun self x ⟨i, h1, h2⟩ hs => ?_) (n := BIG) (x := _) (by simp [BIG]; omega) ⟨0, by omega, rfl⟩;subst h2;simp only;by_cases hi : i < L.length
      · have Cc := auA e L i
        simp only [show ((i : Int) < (L.length : Int)) from by omega, decide_true, ai]
        rw [aF hi, aR hi, af, bT (by omega)]
        have gP : (L.take (i + 1)).foldl (ko e) (((0 : Int), (0 : Int), (0 : Int), false), []) = ko e ((L.take i).foldl (ko e) (((0 : Int), (0 : Int), (0 : Int), false), [])) L[i] := by
          rw [rC hi, pF]; rfl
        have hn := hs (((L.take (i + 1)).foldl (ko e) (((0 : Int), (0 : Int), (0 : Int), false), [])).1, ((m : Int), ((L.take (i + 1)).foldl (ko e) (((0 : Int), (0 : Int), (0 : Int), false), [])).2), ((i + 1 : Nat) : Int)) ⟨i + 1, hi, rfl⟩ (by simp; omega)
        rw [gP] at hn
        unfold ko at hn
        by_cases c1 : L[i].1 = e.1
        · rw [ak c1, ai, af]
          by_cases c2 : L[i].2.1 = e.2
          · rw [ak c2, ai, af]
            rw [if_pos ⟨c1, c2⟩] at hn
            exact hn
          · rw [az c2, ax, ak (by simp only [bF, bQ]; omega), ai, af]
            rw [if_neg (fun h => c2 h.2)] at hn
            exact hn
        · rw [az c1, ax, af, ax, ak (by simp only [bF, bQ]; omega), ai, af]
          rw [if_neg (fun h => c1 h.1)] at hn
          exact hn
      · simp only [show ¬ ((i : Int) < (L.length : Int)) from by omega, decide_false, ax]
        have : i = L.length := by omega
        subst this
        rw [ow]
    have ls : aJ BIG (fun self5 x4 =>
    bif decide (x4.2.2 < (L.length : Int)) then
     Option.bind (Option.bind (bnd L.length x4.2.2 fun n6 =>
       Option.bind L[n6]? fun y7 =>
       bif decide (y7.1 = e.1) then
        bnd L.length x4.2.2 fun n8 =>
        Option.bind L[n8]? fun y9 =>
        some (decide (y9.2.1 = e.2))
       else some false : ah (Bool)) fun x10 =>
      bif x10 then
       bnd L.length x4.2.2 fun n11 =>
       Option.bind L[n11]? fun y12 =>
       some (y12, x4.2.1)
      else bnd L.length x4.2.2 fun n13 =>
      Option.bind L[n13]? fun y14 =>
      bif decide (x4.2.1.2.length + [y14].length ≤ 4294967296) then
       some (x4.1, (x4.2.1.1, x4.2.1.2 ++ [y14]))
      else none : ah ((Int × Int × Int × Bool) × (Int × aa (Int × Int × Int × Bool)))) fun x15 =>
     self5 (x15.1, x15.2, IntKind.wrap .i64 (x4.2.2 + (1 : Int)))
    else some (x4.1, x4.2.1)) ((((0 : Int), (0 : Int), (0 : Int), false), ((m : Int), []), (0 : Int)) : aC × (Int × aa aC) × Int) = some ((L.foldl (ko e) (((0 : Int), (0 : Int), (0 : Int), false), [])).1, ((m : Int), (L.foldl (ko e) (((0 : Int), (0 : Int), (0 : Int), false), [])).2)) := by
      refine ky (fun (x : aC × (Int × aa aC) × Int) => ∃ i : Nat, i ≤ L.length ∧ x = (((L.take i).foldl (ko e) (((0 : Int), (0 : Int), (0 : Int), false), [])).1, ((m : Int), ((L.take i).foldl (ko e) (((0 : Int), (0 : Int), (0 : Int), false), [])).2), (i : Int))) (fun x => L.length - x.2.2.toNat) (fun _ => _) (fun self x ⟨i, h1, h2⟩ hs => ?_) (n := BIG) (x := _) (by simp [BIG]; omega) ⟨0, by omega, rfl⟩;subst h2;simp only;by_cases hi : i < L.length
      · have Cc := auA e L i
        have bi : ∀ {B : Type} {q : Nat → ah B}, bnd L.length (i : Int) q = q i := fun {B q} => aF hi
        simp only [show ((i : Int) < (L.length : Int)) from by omega, decide_true, ai, bi, aR hi, af]
        rw [bT (by omega)]
        have gP : (L.take (i + 1)).foldl (ko e) (((0 : Int), (0 : Int), (0 : Int), false), []) = ko e ((L.take i).foldl (ko e) (((0 : Int), (0 : Int), (0 : Int), false), [])) L[i] := by
          rw [rC hi, pF]; rfl
        have hn := hs (((L.take (i + 1)).foldl (ko e) (((0 : Int), (0 : Int), (0 : Int), false), [])).1, ((m : Int), ((L.take (i + 1)).foldl (ko e) (((0 : Int), (0 : Int), (0 : Int), false), [])).2), ((i + 1 : Nat) : Int)) ⟨i + 1, hi, rfl⟩ (by simp; omega)
        rw [gP] at hn
        unfold ko at hn
        by_cases c1 : L[i].1 = e.1
        · rw [ak c1, ai, af]
          by_cases c2 : L[i].2.1 = e.2
          · rw [ak c2, ai, af]
            rw [if_pos ⟨c1, c2⟩] at hn
            exact hn
          · rw [az c2, ax, ak (by simp only [bF, bQ]; omega), ai, af]
            rw [if_neg (fun h => c2 h.2)] at hn
            exact hn
        · rw [az c1, ax, af, ax, ak (by simp only [bF, bQ]; omega), ai, af]
          rw [if_neg (fun h => c1 h.1)] at hn
          exact hn
      · simp only [show ¬ ((i : Int) < (L.length : Int)) from by omega, decide_false, ax]
        have : i = L.length := by omega
        subst this
        rw [ow]
    rw [li, ls, af, af];obtain ⟨s1, s2, s3⟩ := Sm e L (((0 : Int), (0 : Int), (0 : Int), false)) [];have lW := s3 (by
      obtain ⟨y, hy, uF⟩ := bX.1 bn
      exact ⟨y, hy, uF⟩)
    rw [gQ] at s1;generalize L.foldl (ko e) (((0 : Int), (0 : Int), (0 : Int), false), []) = S at s1 lW;obtain ⟨old, rest⟩ := S;simp only at s1 lW ⊢;obtain ⟨lW, arn⟩ := lW;have aku : 0 ≤ (m : Int) ∧ WOk (m : Int).toNat L ∧ e ∈ gE L := ⟨n0, by rw [il]; exact hw, bn⟩
    have gM : rest.Sublist L := by rw [s1]; exact XD
    have hrl := gM.length_le;have gZ : jT m (gE rest) = true := by
      have hsE : (gE rest).Sublist (gE L) := List.Sublist.map _ gM;have akt : uA (gE L) := by
        have h := hg;unfold jT at h;rw [aU] at h;exact (lc h.2).2.1
      have hG : GrOk (m : Int) (gE rest) := ⟨by omega, by omega, List.Pairwise.sublist hsE akt, fun x hx => mD x (hsE.subset hx)⟩
      unfold jT;rw [show aW (m : Int) 1 12 = true from aV.2 (by omega), QM hG (by unfold gE; rw [dX]; omega)];rfl
    have GZ : NoCyc (qc rest) := by
      have : NoCyc (qc L) := by rw [aqS hw.lv]; exact hw.nc
      exact this.sub fun x hx => (List.Sublist.map _ (List.Sublist.filter _ gM)).subset hx
    have lJ := hw.lv old lW;cases ht : old.2.2.2 with
    | false =>
      have h0 : ∀ x : Int, (bif decide ((0 : Int) ≤ x) then some false else some false : ah Bool) = some false := fun x => by cases decide ((0 : Int) ≤ x) <;> rfl
      refine ⟨((m : Int), rest, (0 : Int), (0 : Int), false, true), ?_, rfl, by simp only; omega, fun h => absurd aku h, fun _ => ⟨old, lW, arn, rfl, rfl, by rw [if_neg (by rw [ht]; simp)]; exact s1⟩⟩;have : aJ BIG (fun (self12 : (Int × aa aC) × (Int × aa aC) × (Int × Int) × Int → ah (((Int × aa aC) × (Int × aa aC) × (Int × Int)) ⊕ ((Int × aa aC) × (Int × Int) × Bool × Bool))) x11 =>
    Option.bind (bif decide ((0 : Int) ≤ x11.2.2.2) then
      some false
     else some false : ah (Bool)) fun x13 =>
    bif x13 then
     Option.bind (qB (x11.1, e, x11.2.2.2)) fun r14 =>
     bif r14.1.2.2 then
      some (Sum.inr (r14.2, (r14.1.1, r14.1.2.1), true, true))
     else self12 (r14.2, x11.2.1, x11.2.2.1, IntKind.wrap .i64 (x11.2.2.2 - (1 : Int)))
    else some (Sum.inl (x11.1, x11.2.1, x11.2.2.1))) ((((m : Int), rest), ((0 : Int), []), ((0 : Int), (0 : Int)), old.2.2.1) : (Int × aa aC) × (Int × aa aC) × (Int × Int) × Int) = some (Sum.inl (((m : Int), rest), ((0 : Int), []), ((0 : Int), (0 : Int)))) := by
        refine ky (fun x => x = ((((m : Int), rest), ((0 : Int), []), ((0 : Int), (0 : Int)), old.2.2.1) : (Int × aa aC) × (Int × aa aC) × (Int × Int) × Int)) (fun _ => 0) (fun _ => _) (fun self x hx hs => ?_) (n := BIG) (x := _) (by simp [BIG]) rfl;subst hx;rw [h0, af, ax]
      rw [this, af]
    | true =>
      have FH : old.2.2.1 = ((old.2.2.1.toNat + 1 : Nat) : Int) - 1 := by omega
      have t1 := aE9 ⟨iX.1, iX.2.1⟩ ⟨iX.2.2.1, iX.2.2.2.1⟩ (old.2.2.1.toNat + 1) (by omega) rest ⟨gZ, GZ⟩;have t2 := aE_ ⟨iX.1, iX.2.1⟩ ⟨iX.2.2.1, iX.2.2.2.1⟩ (old.2.2.1.toNat + 1) (by omega) rest ⟨gZ, GZ⟩;rw [← FH] at t1 t2;simp only [bB, ax];rw [t1, t2, af, af];have hl := ajK m e (old.2.2.1.toNat + 1) rest;rw [il];subst s1;generalize Nt : xX m e (old.2.2.1.toNat + 1) (L.filter fun y => decide ((y.1, y.2.1) ≠ e)) = t at hl;obtain ⟨M, o⟩ := t;simp only at hl;cases o with
      | none => exact ⟨_, rfl, rfl, by simp only; omega, fun h => absurd aku h, fun _ => ⟨old, lW, arn, rfl, rfl, by rw [if_pos ht, Nt]⟩⟩
      | some y => exact ⟨_, rfl, rfl, by simp only; omega, fun h => absurd aku h, fun _ => ⟨old, lW, arn, rfl, rfl, by rw [if_pos ht, Nt]⟩⟩
abbrev Wb:=Int × List aC
noncomputable def WT (W:Wb) (e:Ed):Int × aa aC × Int × Int × Bool × Bool:=((jR (W,e)).getD ((0,[],0,0,false,false),())).1
noncomputable def WA (W:Wb) (e:Ed):Int × aa aC × Bool:=((wh (W,e)).getD ((0,[],false),())).1
theorem abb {W:Wb} (e:Ed) (h:W.2.length<=1000000):jR (W,e)=some (WT W e,())/\kI (W,e)=some (WT W e,())/\(WT W e).2.1.length<=66:=by
 obtain ⟨n,L⟩:=W;obtain ⟨r,h1,h2,h3,_⟩:=QV n L e h;have:WT (n,L) e=r:=by unfold WT;rw [h1];rfl
 rw [this];exact ⟨h1,h2,h3⟩
theorem aqV {W:Wb} (e:Ed) (h:W.2.length<=1000000):wh (W,e)=some (WA W e,())/\Bb (W,e)=some (WA W e,())/\(WA W e).2.1.length<=67:=by
 obtain ⟨n,L⟩:=W;obtain ⟨r,h1,h2,h3,_⟩:=Xk n L e h;have:WA (n,L) e=r:=by unfold WA;rw [h1];rfl
 rw [this];exact ⟨h1,h2,h3⟩
theorem qd (y:An) (h1:y.2.2.1.length<=1048576) (h2:y.2.2.2.length<=1048576):lw y=some (y,()):=by
 show BC BIG _=_;have hi:mf y.2.2.2=some (y.2.2.2,()):=by
  show Ae BIG _=_;rw [Uk,ak (by omega)];rfl
 rw [afU,E9 _ h1,af,hi];rfl
theorem mW (y:An) (h1:y.2.2.1.length<=1048576) (h2:y.2.2.2.length<=1048576):jy y=some (y,()):=by
 show vw BIG _=_;rw [WB,ak (by omega),ai,ak (by omega),ai];rfl
theorem xY (x0 x1:Int) (L:aa aC) (y:An) (hL:L.length<=1048576) (h1:y.2.2.1.length<=1048576) (h2:y.2.2.2.length<=1048576):EP (x0,x1,L,y)=some ((x0,x1,L,y),()):=by
 show EO BIG _=_;have hw:xN (x1,L)=some ((x1,L),()):=by
  show CR BIG _=_;rw [aaD,ak (by simp only;omega)];rfl
 rw [ai2];simp only [hw,af,qd y h1 h2]
theorem xZ (x0 x1:Int) (L:aa aC) (y:An) (hL:L.length<=1048576) (h1:y.2.2.1.length<=1048576) (h2:y.2.2.2.length<=1048576):pO (x0,x1,L,y)=some ((x0,x1,L,y),()):=by
 show Ld BIG _=_;rw [apS,ak (by simp only;omega),ai];simp only [mW y h1 h2,af,gQ]
theorem awu (n:Int) (L:aa aC) (hL:L.length<=1048576):∃V,mQ (n,L)=some (V,())/\mP (n,L)=some (V,())/\V.length<=12:=by
 by_cases hn:0<=n
 ·obtain ⟨m,rfl⟩:∃m:Nat,n=(m:Int):=⟨n.toNat,by omega⟩
  obtain ⟨V,v1,v2,v3⟩:=Ff m L hL;obtain ⟨V',v1',v2',v3'⟩:=Fh m L hL;by_cases hw:WOk m L
  ·have:=dU m (aM L 0);have:=(zI hw.gr).2;rw [v2 hw] at v1;rw [v2' hw] at v1';exact ⟨_,v1,v1',by omega⟩
  ·rw [v3 hw] at v1;rw [v3' hw] at v1';exact ⟨_,v1,v1',by simp⟩
 ·obtain ⟨b,b1,b2⟩:=Fe n L hL;obtain ⟨b',b1',b2'⟩:=Fg n L hL;have e1:b=false:=by
   cases b with
   | false=>rfl
   | true=>exact absurd (b2.1 rfl).1 hn
  have e2:b'=false:=by
   cases b' with
   | false=>rfl
   | true=>exact absurd (b2'.1 rfl).1 hn
  subst e1 e2;refine ⟨[],?_,?_,by simp⟩
  ·show xM BIG _=_;rw [Qo,b1];rfl
  ·show xF BIG _=_;rw [O7,b1'];rfl
noncomputable def iQ (v:Int) (s:Wb × aa Ed) (y:Ed):Wb × aa Ed:=if y.1=v\/y.2=v then (((WT s.1 y).1,(WT s.1 y).2.1),s.2++[y]) else s
noncomputable def jr (s:Wb × Bool) (y:Ed):Wb × Bool:=(if (WA s.1 y).2.2=true then ((WA s.1 y).1,(WA s.1 y).2.1) else s.1,s.2&&(WA s.1 y).2.2)
theorem JX (v:Int):∀(es:aa Ed) (s:Wb × aa Ed),s.1.2.length<=1000000->(es.foldl (iQ v) s).1.2.length<=1000000/\(es.foldl (iQ v) s).2.length<=s.2.length+es.length
 | [],s,h=>⟨h,by simp⟩
 | y::es,s,h=>by
  rw [gH];have h1:=(abb y h).2.2;by_cases hc:y.1=v\/y.2=v
  ·have hs:iQ v s y=(((WT s.1 y).1,(WT s.1 y).2.1),s.2++[y]):=by unfold iQ;rw [if_pos hc]
   obtain ⟨a,b⟩:=JX v es (iQ v s y) (by rw [hs];simp only;omega);refine ⟨a,?_⟩;rw [hs] at b ⊢;simp only [dP,bF,bQ] at b ⊢;omega
  ·have hs:iQ v s y=s:=by unfold iQ;rw [if_neg hc]
   obtain ⟨a,b⟩:=JX v es (iQ v s y) (by rw [hs];exact h);refine ⟨a,?_⟩;rw [hs] at b ⊢;simp only [bF];omega
theorem Sn:∀(es:aa Ed) (s:Wb × Bool),s.1.2.length<=1000000->(es.foldl jr s).1.2.length<=1000000
 | [],s,h=>h
 | y::es,s,h=>by
  rw [gH];have h1:=(aqV y h).2.2;refine Sn es _ ?_;unfold jr;simp only;split
  ·simp only;omega
  ·exact h
theorem GQ {α S:Type} (st:S->α->S) (s:S) {l:aa α} {i:Nat} (hi:i<l.length):(l.take (i+1)).foldl st s=st ((l.take i).foldl st s) l[i]:=by
 rw [rC hi,pF];rfl
section
variable (x0 n:Int) (L:aa aC) (y:An) (hL:L.length<=1000000)
include hL
theorem afn (v:Int):pQ ((x0,n,L,y),v)=some (((gE L).foldl (iQ v) ((n,L),[])).2,(x0,((gE L).foldl (iQ v) ((n,L),[])).1.1,((gE L).foldl (iQ v) ((n,L),[])).1.2,y)):=by
 have hm:maxLen=9223372036854775807:=by decide
 have hgl:(gE L).length=L.length:=by unfold gE;rw [dX]
 have hO:LZ (x0,n,L,y)=some (gE L,()):=awp x0 n L y.1 y.2.1 y.2.2.1 y.2.2.2 (by omega);show vH BIG _=_;rw [W_,hO,af];generalize gE L=E at hgl;have:aJ BIG (fun self2 x1=>
  bif decide (x1.2.2<(E.length:Int)) then
   Option.bind (bnd E.length x1.2.2 fun n3=>
    Option.bind E[n3]? fun y4=>
    Option.bind (bif decide (y4.1=v) then
     some true
     else some (decide (y4.2=v)):ah (Bool)) fun x5=>
    bif x5 then
     Option.bind (jR ((x1.1.2.1,x1.1.2.2.1),y4)) fun r6=>
     bif decide (x1.2.1.length+[y4].length<=4294967296) then
      some ((x1.1.1,r6.1.1,r6.1.2.1,x1.1.2.2.2),x1.2.1++[y4])
     else none
    else some (x1.1,x1.2.1):ah ((Int × Int × aa (Int × Int × Int × Bool) × Int × Bool × aa (Int × Int) × aa (Int)) × (aa (Int × Int)))) fun x7=>
   self2 (x7.1,x7.2,IntKind.wrap .i64 (x1.2.2+(1:Int)))
  else some (x1.1,x1.2.1)) (((x0,n,L,y),[],(0:Int)):(Int × Int × aa aC × An) × aa Ed × Int)=some ((x0,(E.foldl (iQ v) ((n,L),[])).1.1,(E.foldl (iQ v) ((n,L),[])).1.2,y),(E.foldl (iQ v) ((n,L),[])).2):=by
  refine ky (fun (x:(Int × Int × aa aC × An) × aa Ed × Int)=>∃i:Nat,i<=E.length/\x=((x0,((E.take i).foldl (iQ v) ((n,L),[])).1.1,((E.take i).foldl (iQ v) ((n,L),[])).1.2,y),((E.take i).foldl (iQ v) ((n,L),[])).2,(i:Int))) (fun x=>E.length-x.2.2.toNat) (fun _=>_) (fun self x ⟨i,h1,h2⟩ hs => ?_) (n:=BIG) (x:=_) (by simp [BIG];omega) ⟨0,by omega,rfl⟩;subst h2;simp only;by_cases hi:i<E.length
  ·obtain ⟨l1,l2⟩:=JX v (E.take i) ((n,L),[]) hL;rw [iy] at l2;simp only [bQ] at l2;have hn:=hs ((x0,((E.take (i+1)).foldl (iQ v) ((n,L),[])).1.1,((E.take (i+1)).foldl (iQ v) ((n,L),[])).1.2,y),((E.take (i+1)).foldl (iQ v) ((n,L),[])).2,((i+1:Nat):Int)) ⟨i+1,hi,rfl⟩ (by simp;omega);rw [GQ _ _ hi] at hn;obtain ⟨t1,_,t3⟩:=abb E[i] l1;generalize (E.take i).foldl (iQ v) ((n,L),[])=s at l1 l2 hn t1 t3;obtain ⟨⟨a,M⟩,out⟩:=s;simp only at l1 l2 t1 t3;unfold iQ at hn;simp only [show ((i:Int)<(E.length:Int)) from by omega,decide_true,ai];rw [aF hi,aR hi,af,bT (by omega)];have hc:(bif decide (E[i].1=v) then some true else some (decide (E[i].2=v)):ah Bool)=some (decide (E[i].1=v\/E[i].2=v)):=by
    by_cases c1:E[i].1=v<;>by_cases c2:E[i].2=v<;>simp [c1,c2]
   rw [hc,af];by_cases c:E[i].1=v\/E[i].2=v
   ·rw [ak c,ai,t1,af,ak (by simp only [bF,bQ];omega),ai,af];rw [if_pos c] at hn;exact hn
   ·rw [az c,ax,af];rw [if_neg c] at hn;exact hn
  ·simp only [show ¬((i:Int)<(E.length:Int)) from by omega,decide_false,ax];have:i=E.length:=by omega
   subst this;rw [ow]
 rw [this,af]
theorem abd (v num:Int) (E:aa Ed) (hE:E.length<=1000000):aJ BIG (fun self20 x19=>
   bif decide (x19.2.2<(E.length:Int)) then
    Option.bind (Option.bind (bnd E.length x19.2.2 fun n21=>
     Option.bind E[n21]? fun y22=>
     bif decide (y22.1=v) then
      some true
     else bnd E.length x19.2.2 fun n23=>
     Option.bind E[n23]? fun y24=>
     some (decide (y24.2=v)):ah (Bool)) fun x25=>
     bif x25 then
      bnd E.length x19.2.2 fun n26=>
      Option.bind E[n26]? fun y27=>
      Option.bind (kI (x19.1,y27)) fun r28=>
      bnd E.length x19.2.2 fun n29=>
      Option.bind E[n29]? fun y30=>
      bif decide (x19.2.1.2.2.1.length+[y30].length<=4294967296) then
       some ((r28.1.1,r28.1.2.1),(x19.2.1.1,x19.2.1.2.1,x19.2.1.2.2.1++[y30],x19.2.1.2.2.2))
      else none
     else some (x19.1,x19.2.1):ah ((Int × aa (Int × Int × Int × Bool)) × (Int × Bool × aa (Int × Int) × aa (Int)))) fun x31=>
    self20 (x31.1,x31.2,IntKind.wrap .i64 (x19.2.2+(1:Int)))
   else some (x19.1,x19.2.1)) (((n,L),(num,true,[],[]),(0:Int)):Wb × An × Int)=some ((E.foldl (iQ v) ((n,L),[])).1,(num,true,(E.foldl (iQ v) ((n,L),[])).2,[])):=by
 have hm:maxLen=9223372036854775807:=by decide
 refine ky (fun (x:Wb × An × Int)=>∃i:Nat,i<=E.length/\x=(((E.take i).foldl (iQ v) ((n,L),[])).1,(num,true,((E.take i).foldl (iQ v) ((n,L),[])).2,[]),(i:Int))) (fun x=>E.length-x.2.2.toNat) (fun _=>_) (fun self x ⟨i,h1,h2⟩ hs => ?_) (n:=BIG) (x:=_) (by simp [BIG];omega) ⟨0,by omega,rfl⟩;subst h2;simp only;by_cases hi:i<E.length
 ·obtain ⟨l1,l2⟩:=JX v (E.take i) ((n,L),[]) hL;rw [iy] at l2;simp only [bQ] at l2;have hn:=hs (((E.take (i+1)).foldl (iQ v) ((n,L),[])).1,(num,true,((E.take (i+1)).foldl (iQ v) ((n,L),[])).2,[]),((i+1:Nat):Int)) ⟨i+1,hi,rfl⟩ (by simp;omega);rw [GQ _ _ hi] at hn;obtain ⟨_,t1,t3⟩:=abb E[i] l1;generalize (E.take i).foldl (iQ v) ((n,L),[])=s at l1 l2 hn t1 t3;obtain ⟨W,out⟩:=s;simp only at l1 l2 t1 t3;unfold iQ at hn;have bi:∀{B:Type} {q:Nat->ah B},bnd E.length (i:Int) q=q i:=fun {B q}=>aF hi
  simp only [show ((i:Int)<(E.length:Int)) from by omega,decide_true,ai,bi,aR hi,af];rw [bT (by omega)];have hc:(bif decide (E[i].1=v) then some true else some (decide (E[i].2=v)):ah Bool)=some (decide (E[i].1=v\/E[i].2=v)):=by
   by_cases c1:E[i].1=v<;>by_cases c2:E[i].2=v<;>simp [c1,c2]
  rw [hc,af];by_cases c:E[i].1=v\/E[i].2=v
  ·rw [ak c,ai,t1,af,ak (by simp only [bF,bQ];omega),ai,af];rw [if_pos c] at hn;exact hn
  ·rw [az c,ax,af];rw [if_neg c] at hn;exact hn
 ·simp only [show ¬((i:Int)<(E.length:Int)) from by omega,decide_false,ax];have:i=E.length:=by omega
  subst this;rw [ow]
theorem ajL (E:aa Ed) (hE:E.length<=1000000):rf ((x0,n,L,y),E)=some ((E.foldl jr ((n,L),true)).2,(x0,(E.foldl jr ((n,L),true)).1.1,(E.foldl jr ((n,L),true)).1.2,y)):=by
 have hm:maxLen=9223372036854775807:=by decide
 show xO BIG _=_;rw [aaP];have:aJ BIG (fun self1 x0=>
  bif decide (x0.2.2<(E.length:Int)) then
   Option.bind (bnd E.length x0.2.2 fun n2=>
    Option.bind E[n2]? fun y3=>
    Option.bind (wh ((x0.1.2.1,x0.1.2.2.1),y3)) fun r4=>
    Option.bind (bif r4.1.2.2 then
     some (x0.1.1,r4.1.1,r4.1.2.1,x0.1.2.2.2)
     else some x0.1:ah ((Int × Int × aa (Int × Int × Int × Bool) × Int × Bool × aa (Int × Int) × aa (Int)))) fun x5=>
    Option.bind (bif x0.2.1 then
     some r4.1.2.2
     else some false:ah (Bool)) fun x6=>
    some (x5,x6):ah ((Int × Int × aa (Int × Int × Int × Bool) × Int × Bool × aa (Int × Int) × aa (Int)) × Bool)) fun x7=>
   self1 (x7.1,x7.2,IntKind.wrap .i64 (x0.2.2+(1:Int)))
  else some (x0.1,x0.2.1)) (((x0,n,L,y),true,(0:Int)):(Int × Int × aa aC × An) × Bool × Int)=some ((x0,(E.foldl jr ((n,L),true)).1.1,(E.foldl jr ((n,L),true)).1.2,y),(E.foldl jr ((n,L),true)).2):=by
  refine ky (fun (x:(Int × Int × aa aC × An) × Bool × Int)=>∃i:Nat,i<=E.length/\x=((x0,((E.take i).foldl jr ((n,L),true)).1.1,((E.take i).foldl jr ((n,L),true)).1.2,y),((E.take i).foldl jr ((n,L),true)).2,(i:Int))) (fun x=>E.length-x.2.2.toNat) (fun _=>_) (fun self x ⟨i,h1,h2⟩ hs => ?_) (n:=BIG) (x:=_) (by simp [BIG];omega) ⟨0,by omega,rfl⟩;subst h2;simp only;by_cases hi:i<E.length
  ·have l1:=Sn (E.take i) ((n,L),true) hL;have hn:=hs ((x0,((E.take (i+1)).foldl jr ((n,L),true)).1.1,((E.take (i+1)).foldl jr ((n,L),true)).1.2,y),((E.take (i+1)).foldl jr ((n,L),true)).2,((i+1:Nat):Int)) ⟨i+1,hi,rfl⟩ (by simp;omega);rw [GQ _ _ hi] at hn;obtain ⟨t1,_,t3⟩:=aqV E[i] l1;generalize (E.take i).foldl jr ((n,L),true)=s at l1 hn t1 t3;obtain ⟨⟨a,M⟩,al⟩:=s;simp only at l1 t1 t3;unfold jr at hn;simp only [show ((i:Int)<(E.length:Int)) from by omega,decide_true,ai];rw [aF hi,aR hi,af,bT (by omega),t1,af];simp only at hn ⊢;cases aT:(WA (a,M) E[i]).2.2 with
   | true=>
    rw [aT] at hn;simp only [if_true,wE] at hn;cases al<;>exact hn
   | false=>
    rw [aT] at hn;simp only [iK,if_false,Bool.and_false] at hn;cases al<;>exact hn
  ·simp only [show ¬((i:Int)<(E.length:Int)) from by omega,decide_false,ax];have:i=E.length:=by omega
   subst this;rw [ow]
 rw [this,af]
theorem afo (num:Int) (E:aa Ed) (hE:E.length<=1000000):aJ BIG (fun self7 x6=>
   bif decide (x6.2.2<(E.length:Int)) then
    Option.bind (bnd E.length x6.2.2 fun n8=>
     Option.bind E[n8]? fun y9=>
     Option.bind (Bb (x6.1,y9)) fun r10=>
     Option.bind (bif r10.1.2.2 then
      some (r10.1.1,r10.1.2.1)
      else some x6.1:ah ((Int × aa (Int × Int × Int × Bool)))) fun x11=>
     Option.bind (bif x6.2.1.2.1 then
      some (x6.2.1.1,r10.1.2.2,x6.2.1.2.2)
      else some (x6.2.1.1,false,x6.2.1.2.2):ah ((Int × Bool × aa (Int × Int) × aa (Int)))) fun x12=>
     some (x11,x12):ah ((Int × aa (Int × Int × Int × Bool)) × (Int × Bool × aa (Int × Int) × aa (Int)))) fun x13=>
    self7 (x13.1,x13.2,IntKind.wrap .i64 (x6.2.2+(1:Int)))
   else some (x6.1,x6.2.1)) (((n,L),(num,true,[],[]),(0:Int)):Wb × An × Int)=some ((E.foldl jr ((n,L),true)).1,(num,(E.foldl jr ((n,L),true)).2,[],[])):=by
 have hm:maxLen=9223372036854775807:=by decide
 refine ky (fun (x:Wb × An × Int)=>∃i:Nat,i<=E.length/\x=(((E.take i).foldl jr ((n,L),true)).1,(num,((E.take i).foldl jr ((n,L),true)).2,[],[]),(i:Int))) (fun x=>E.length-x.2.2.toNat) (fun _=>_) (fun self x ⟨i,h1,h2⟩ hs => ?_) (n:=BIG) (x:=_) (by simp [BIG];omega) ⟨0,by omega,rfl⟩;subst h2;simp only;by_cases hi:i<E.length
 ·have l1:=Sn (E.take i) ((n,L),true) hL;have hn:=hs (((E.take (i+1)).foldl jr ((n,L),true)).1,(num,((E.take (i+1)).foldl jr ((n,L),true)).2,[],[]),((i+1:Nat):Int)) ⟨i+1,hi,rfl⟩ (by simp;omega);rw [GQ _ _ hi] at hn;obtain ⟨_,t1,t3⟩:=aqV E[i] l1;generalize (E.take i).foldl jr ((n,L),true)=s at l1 hn t1 t3;obtain ⟨W,al⟩:=s;simp only at l1 t1 t3;unfold jr at hn;simp only [show ((i:Int)<(E.length:Int)) from by omega,decide_true,ai];rw [aF hi,aR hi,af,bT (by omega),t1,af];simp only at hn ⊢;cases aT:(WA W E[i]).2.2 with
  | true=>
   rw [aT] at hn;simp only [if_true,wE] at hn;cases al<;>exact hn
  | false=>
   rw [aT] at hn;simp only [iK,if_false,Bool.and_false] at hn;cases al<;>exact hn
 ·simp only [show ¬((i:Int)<(E.length:Int)) from by omega,decide_false,ax];have:i=E.length:=by omega
  subst this;rw [ow]
end
theorem aBB (x0 n : Int) (L : aa aC) (y : An) (o : Be) (hL : L.length ≤ 1048576) (h1 : y.2.2.1.length ≤ 1048576) (h2 : y.2.2.2.length ≤ 1048576) (ho : o.2.2.1.length ≤ 1048576) :
    ∃ (a b : Int) (M : aa aC) (z z' : An) (e : Int), oM ((x0, n, L, y), o) = some ((a, b, M, z.1, z.2.1, z.2.2.1, z.2.2.2, z'.1, z'.2.1, z'.2.2.1, z'.2.2.2, e), ()) ∧ nG ((x0, n, L, y), o) = some ((a, b, M, z.1, z.2.1, z.2.2.1, z.2.2.2, z'.1, z'.2.1, z'.2.2.1, z'.2.2.2, e), ()) ∧ M.length ≤ 1048576 ∧ (z.2.2.1.length ≤ 1048576 ∧ z.2.2.2.length ≤ 1048576) ∧ (z'.2.2.1.length ≤ 1048576 ∧ z'.2.2.2.length ≤ 1048576) := by
  obtain ⟨b, b1, b2, b3⟩ := afl x0 n L y hL h1 h2;have hO1 := Mf n o ho;have hO2 := Me n o ho;have rej : ∀ p q : ah ((Int × Int × aa aC × Int × Bool × aa Ed × aa Int × Int × Bool × aa Ed × aa Int × Int) × Unit), p = some (((0 : Int), (0 : Int), [], (0 : Int), false, [], [], (0 : Int), false, [], [], (1 : Int)), ()) → q = some (((0 : Int), (0 : Int), [], (0 : Int), false, [], [], (0 : Int), false, [], [], (1 : Int)), ()) → ∃ (a b : Int) (M : aa aC) (z z' : An) (e : Int), p = some ((a, b, M, z.1, z.2.1, z.2.2.1, z.2.2.2, z'.1, z'.2.1, z'.2.2.1, z'.2.2.2, e), ()) ∧ q = some ((a, b, M, z.1, z.2.1, z.2.2.1, z.2.2.2, z'.1, z'.2.1, z'.2.2.1, z'.2.2.2, e), ()) ∧ M.length ≤ 1048576 ∧ (z.2.2.1.length ≤ 1048576 ∧ z.2.2.2.length ≤ 1048576) ∧ (z'.2.2.1.length ≤ 1048576 ∧ z'.2.2.2.length ≤ 1048576) := fun p q h h' => ⟨0, 0, [], (0, false, [], []), (0, false, [], []), 1, h, h', by simp, by simp, by simp⟩
  show ∃ (a b : Int) (M : aa aC) (z z' : An) (e : Int), R9 BIG _ = _ ∧ R6 BIG _ = _ ∧ _;rw [anK, ank, b1, b2, af, af];cases b with
  | false => exact rej _ _ rfl rfl
  | true =>
    obtain ⟨c1, c2, c3, c4⟩ := b3.1 rfl;have Rf := (jY c3.gr).2.2;have hgl : (gE L).length = L.length := by unfold gE; rw [dX]
    simp only [bB, ax, hO1, hO2, af];cases hob : pV n o with
    | false => exact rej _ _ rfl rfl
    | true =>
      simp only [bB, ax];by_cases hn : o.1 = y.1
      · rw [ak hn, xY x0 n L y hL h1 h2, xZ x0 n L y hL h1 h2, qd y h1 h2, mW y h1 h2]
        exact ⟨x0, n, L, y, y, 0, rfl, rfl, hL, ⟨h1, h2⟩, h1, h2⟩
      · rw [az hn]
        simp only [gW, ai, af, ax]
        by_cases hw : o.1 = IntKind.wrap .i64 (y.1 + 1)
        case neg =>
          rw [az hw];exact rej _ _ rfl rfl
        rw [ak hw]
        simp only [bB, ax]
        rw [xY x0 n L y hL h1 h2, af]
        simp only
        -- what follows every change
        have tail : ∀ (a : Int) (M : aa aC) (ok : Bool) (es : aa Ed) (p q : ah ((Int × Int × aa aC × An) × An)) , p = some ((x0, a, M, y), (o.1, ok, es, [])) → ∀ q : ah ((Int × aa aC) × An), q = some ((a, M), (o.1, ok, es, [])) → M.length ≤ 1000000 → es.length ≤ 1000000 →
            ∃ (a b : Int) (M : aa aC) (z z' : An) (e : Int), (Option.bind p fun x11 =>
  Option.bind (mQ (x11.1.2.1, x11.1.2.2.1)) fun r12 =>
  Option.bind (lw (x11.2.1, x11.2.2.1, x11.2.2.2.1, r12.1)) fun r13 =>
  some ((x11.1.1, x11.1.2.1, x11.1.2.2.1, r13.1.1, r13.1.2.1, r13.1.2.2.1, r13.1.2.2.2, x11.2.1, x11.2.2.1, x11.2.2.2.1, r12.1, (0 : Int)), ())) = some ((a, b, M, z.1, z.2.1, z.2.2.1, z.2.2.2, z'.1, z'.2.1, z'.2.2.1, z'.2.2.2, e), ()) ∧ (Option.bind q fun x32 =>
  Option.bind (mP x32.1) fun r33 =>
  Option.bind (pO (x0, x32.1.1, x32.1.2, x32.2.1, x32.2.2.1, x32.2.2.2.1, r33.1)) fun r34 =>
  Option.bind (jy (x32.2.1, x32.2.2.1, x32.2.2.2.1, r33.1)) fun r35 =>
  some ((r34.1.1, r34.1.2.1, r34.1.2.2.1, r34.1.2.2.2.1, r34.1.2.2.2.2.1, r34.1.2.2.2.2.2.1, r34.1.2.2.2.2.2.2, r35.1.1, r35.1.2.1, r35.1.2.2.1, r35.1.2.2.2, (0 : Int)), ())) = some ((a, b, M, z.1, z.2.1, z.2.2.1, z.2.2.2, z'.1, z'.2.1, z'.2.2.1, z'.2.2.2, e), ()) ∧ M.length ≤ 1048576 ∧ (z.2.2.1.length ≤ 1048576 ∧ z.2.2.2.length ≤ 1048576) ∧ (z'.2.2.1.length ≤ 1048576 ∧ z'.2.2.2.length ≤ 1048576) := by
          intro a M ok es p _ hp q hq hM qo;obtain ⟨V, v1, v2, v3⟩ := awu a M (by omega);have i1 := qd (o.1, ok, es, V) (by simp only; omega) (by simp only; omega);have i2 := xZ x0 a M (o.1, ok, es, V) (by omega) (by simp only; omega) (by simp only; omega);have i3 := mW (o.1, ok, es, V) (by simp only; omega) (by simp only; omega);subst hp hq;simp only [af, v1, v2, i1, i2, i3];exact ⟨x0, a, M, (o.1, ok, es, V), (o.1, ok, es, V), 0, rfl, rfl, by omega, ⟨by simp only; omega, by simp only; omega⟩, by simp only; omega, by simp only; omega⟩
        -- what the order says
        have Xv := hob
        unfold pV at Xv
        simp only [aU] at Xv
        obtain ⟨_, _, d3, d4, d5⟩ := Xv
        have d3' := aV.1 d3
        have hol := jV d4
        by_cases c2' : o.2.1 = 2
        · rw [if_neg (by omega), if_neg (by omega)] at d5
          simp only [aU, decide_eq_true_eq] at d5
          obtain ⟨e, he⟩ := List.length_eq_one_iff.1 d5.1
          obtain ⟨t1, t2, t3⟩ := abb (W := (n, L)) e (by simp only; omega)
          rw [ak c2', az (show ¬ o.2.1 = 1 from by omega), az (show ¬ o.2.1 = 4 from by omega), he]
          cases hk : (WT (n, L) e).2.2.2.2.2 with
          | true =>
            refine tail (WT (n, L) e).1 (WT (n, L) e).2.1 true [] _ none ?_ _ ?_ (by omega) (by simp)
            · show (Option.bind (jR ((n, L), e)) _) = _
              rw [t1, af, hk]
              rfl
            · show (Option.bind (kI ((n, L), e)) _) = _
              rw [t2, af, hk]
              rfl
          | false =>
            refine tail n L false [] _ none ?_ _ ?_ (by omega) (by simp)
            · show (Option.bind (jR ((n, L), e)) _) = _
              rw [t1, af, hk]
              rfl
            · show (Option.bind (kI ((n, L), e)) _) = _
              rw [t2, af, hk]
              rfl
        · by_cases c3' : o.2.1 = 3
          · rw [az c2', ak c3', az (show ¬ o.2.1 = 1 from by omega), az (show ¬ o.2.1 = 4 from by omega)]
            have r1 := afn x0 n L y (by omega) o.2.2.2
            have r2 := abd n L (by omega) o.2.2.2 o.1 (gE L) (by omega)
            obtain ⟨l1, l2⟩ := JX o.2.2.2 (gE L) ((n, L), []) (by simp only; omega)
            simp only [bQ] at l2
            refine tail ((gE L).foldl (iQ o.2.2.2) ((n, L), [])).1.1 ((gE L).foldl (iQ o.2.2.2) ((n, L), [])).1.2 true ((gE L).foldl (iQ o.2.2.2) ((n, L), [])).2 _ none ?_ _ ?_ l1 (by omega)
            · rw [ax, ai, r1]
              rfl
            · rw [ax, af, ax, ax, ai, xR n L (by omega), af]
              exact r2
          · rw [az c2', az c3']
            have r1 := ajL x0 n L y (by omega) o.2.2.1 (by omega)
            have r2 := afo n L (by omega) o.1 o.2.2.1 (by omega)
            have l1 := Sn o.2.2.1 ((n, L), true) (by simp only; omega)
            have hc : (bif decide (o.2.1 = (1 : Int)) then some true else some (decide (o.2.1 = (4 : Int))) : ah Bool) = some true := by
              by_cases h : o.2.1 = 1
              · rw [ak h]; rfl
              · rw [az h, ak (show o.2.1 = 4 from by omega)]; rfl
            refine tail (o.2.2.1.foldl jr ((n, L), true)).1.1 (o.2.2.1.foldl jr ((n, L), true)).1.2 (o.2.2.1.foldl jr ((n, L), true)).2 [] _ none ?_ _ ?_ l1 (by simp)
            · rw [ax, ax, r1]
              rfl
            · rw [hc, af, ai]
              exact r2
end Go.Fw
