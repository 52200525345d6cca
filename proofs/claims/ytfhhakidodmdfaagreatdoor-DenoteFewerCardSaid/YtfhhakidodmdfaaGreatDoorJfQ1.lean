/- cU of this claim: K1, K2, K3, K4, L1, L2, L3, M1, M2, M3, M4, M5, M6, M7, M8, M9, M10. -/
import Derived.Test.YtfhhakidodmdfaaGreatDoorJfF
import Derived.KernelRfl
import Derived.Test.YtfhhakidodmdfaaGreatDoorJfV4
set_option linter.all false
namespace Go.Proofs.YtfhhakidodmdfaaGreatDoor
open Go

abbrev ci:=List ac
variable{n:bp}
theorem pN{n:Int}(h: -9223372036854775808≤n)(h2:n≤9223372036854775807):IntKind.i64.wrap n=n:=by
 rw [wk];omega
variable{α:Type}{xs:List α}
theorem cq{ys:List α}(h:xs.length+ys.length≤68719476736):app xs ys=some (xs++ys):=aY h
theorem Sw{i:Nat}:cN xs (i:Int)=(xs.drop i).head? :=by
 rw [bT,List.head?_drop]
def fT(v:ac):Bool:=(dL v).getD false
variable{v:ac}
theorem ga(v:ac):dL v=some (fT v):=by
 unfold fT dL
 repeat' split
 all_goals rfl
variable{k:Nat}
theorem ol(v:ac):lr v=some (if fT v then 0 else 120):=by
 obtain⟨k,n,u,s⟩:=v
 unfold fT dL lr xW
 simp only [kP,qd,qc,qb]
 by_cases h0:k=0
 ·subst h0;simp
  repeat' split
  all_goals simp_all
 by_cases h1:k=1
 ·subst h1
  by_cases n0:n=0
  ·subst n0;simp
   repeat' split
   all_goals simp_all
  by_cases n1:n=1
  ·subst n1;simp
   repeat' split
   all_goals simp_all
  simp [n0,n1]
 by_cases h2:k=2
 ·subst h2;simp
  repeat' split
  all_goals simp_all
 by_cases h3:k=3
 ·subst h3;simp
  repeat' split
  all_goals simp_all
 by_cases h4:k=4
 ·subst h4;simp
  repeat' split
  all_goals simp_all
 simp [h0,h1,h2,h3,h4]
def dM(r:ci):Bool:=decide (r.length≤16)&&r.all fT
theorem E5(v:ac):rR v=some (!fT v):=by
 unfold rR
 rw [ol]
 cases fT v<;>rfl
variable{f:α→α→Int}{l:List ci}{r:List ac}
theorem C1{f:ac→Option Bool}{g:ac→Bool}(hf: ∀v,f v=some (g v))(l:ci):gu l f=some (l.any g):=by
 have key: ∀(l:ci) (i:Nat),(cJ f l i).bind (fun r=>some (decide ((0:Int)≤r)))=some (l.any g):=by
  intro l
  induction l with
  |nil=>intro i;simp [cJ]
  |cons e t ih=>intro i;simp only [cJ,hf,be];cases h:g e<;>simp [ih,h]
 exact key l 0
theorem sS(r:ci):qX r=some (dM r):=by
 unfold qX dM
 rw [C1 (g:=fun v=> !fT v) E5]
 by_cases h:r.length≤16
 ·rw [aY (by simp;omega)]
  simp [h,List.all_eq_not_any_not]
 ·rw [aK (by simp;omega)]
  simp [h]
theorem IB(r:ci):y4 r=some (if dM r then 0 else 150):=by
 unfold y4
 rw [sS]
 cases dM r<;>rfl
theorem Ng{r:ci}(h:dM r=true):r.length≤16:=by
 unfold dM at h
 simp at h
 exact h.1

variable{a:ac}
theorem lP: ∀s:xC,Op.bytesLess s s=false
 |[]=>rfl
 |a::s=>by
  unfold Op.bytesLess
  simp [lP s]
def YA:List Int→Int
 |[]=>0
 |e::t=>if e !=0 then e else YA t
theorem CR(l:List Int):nf l=some (YA l):=by
 unfold nf
 induction l with
 |nil=>rfl
 |cons e t ih=>simp only [gj,YA];split<;>simp [*]
def val(x y:ac):Int:=(pT x y).getD 0
variable{x y:Int}
theorem Fe(x y:ac):pT x y=some (val x y):=by
 unfold val pT qY
 repeat' split
 all_goals rfl
theorem Jy(p y:Int):gX p y=some (if p<y then -1 else if y<p then 1 else 0):=by
 unfold gX nT
 simp
 repeat' split
 all_goals rfl
theorem HR(p y:Int):gQ p y=some (if p<y then -1 else if y<p then 1 else 0):=by
 unfold gQ li
 simp
 repeat' split
 all_goals rfl
theorem HQ(p y:Int):nh p y=some (if p<y then -1 else if y<p then 1 else 0):=by
 unfold nh oY
 simp
 repeat' split
 all_goals rfl
theorem PG(p y:xC):ni p y=some (if Op.bytesLess p y then -1 else if p=y then 0 else 1):=by
 unfold ni oZ
 by_cases h:p=y
 ·subst h;simp [lP]
 ·cases h2:Op.bytesLess p y<;>simp [h]
theorem zY(x y:ac):pD x y=some (val x y):=by
 unfold pD
 rw [Jy,HR,HQ,PG]
 simp only [be]
 rw [CR]
 unfold val pT qY
 simp only [YA,be]
 by_cases h1:x.Kind=y.Kind
 ·rw [h1]
  by_cases h2:x.N=y.N
  ·rw [h2]
   by_cases h3:x.U=y.U
   ·rw [h3]
    by_cases h4:x.S=y.S
    ·rw [h4];simp [lP]
    ·cases h5:Op.bytesLess x.S y.S<;>simp [h4]
   ·rcases Int.lt_or_gt_of_ne h3 with h|h
    ·simp [h3,h]
    ·have: ¬x.U<y.U:=by omega
     simp [h3,h,this]
  ·rcases Int.lt_or_gt_of_ne h2 with h|h
   ·simp [h2,h]
   ·have: ¬x.N<y.N:=by omega
    simp [h2,h,this]
 ·rcases Int.lt_or_gt_of_ne h1 with h|h
  ·simp [h1,h]
  ·have: ¬x.Kind<y.Kind:=by omega
   simp [h1,h,this]
def dV:ci→ci→Int
 |[],[]=>0
 |[],_::_=> -1
 |_::_,[]=>1
 |x::a,y::b=>if val x y !=0 then val x y else dV a b
theorem Gp(a b:ci):cu a b pD=some (dV a b):=by
 unfold cu
 have key: ∀(l:ci) (i:Nat),a.drop i=l→i≤a.length→bK a b pD l i=some (dV l (b.drop i)):=by
  intro l
  induction l with
  |nil=>
   intro i h1 h2
   have h3:a.length≤i:=Ib.1 h1
   simp only [bK]
   by_cases hlt:a.length<b.length
   ·rw [aY (by simp;omega)]
    rw [xL (by omega:i<b.length)];rfl
   ·rw [aK (by simp;omega),DN (by omega)];rfl
  |cons x t ih=>
   intro i h1 h2
   have hi:i<a.length:=by
    rcases nW i a.length with h|h
    ·exact h
    ·rw [DN h]at h1;cases h1
   simp only [bK]
   have ht:=ih (i+1) (by rw [←qL,h1];rfl) (by omega)
   rcases nW i b.length with h|h
   ·rw [aK (by simp;omega),bT,oM h,xL h,ht]
    simp only [be,zY,dV]
    split<;>rfl
   ·rw [aY (by simp;omega),DN h];rfl
 exact key a 0 rfl (lS _)
theorem wB(a b:ci):pQ a b=some (dV a b):=by
 unfold pQ
 rw [Gp a b];rfl
theorem E6(a b:ci):ou a b=some (if dM a&&dM b then dV a b else 0):=by
 unfold ou
 rw [sS,sS,wB]
 cases ha:dM a<;>cases hb:dM b<;>simp
theorem wD(a b:ci):pR a b=some (decide (a=b)):=by
 unfold pR jk
 by_cases hl:a.length=b.length
 ·rw [aK (by simp [hl])]
  have key: ∀(l:ci) (i:Nat),a.drop i=l→dX b l i=some (decide (l=b.drop i)):=by
   intro l
   induction l with
   |nil=>
    intro i h1
    have h3:a.length≤i:=Ib.1 h1
    rw [DN (by omega)];rfl
   |cons x t ih=>
    intro i h1
    have hi:i<a.length:=by
     rcases nW i a.length with h|h
     ·exact h
     ·rw [DN h]at h1;cases h1
    have ht:=ih (i+1) (by rw [←qL,h1];rfl)
    simp only [dX]
    rw [bT,oM (by omega),xL (by omega:i<b.length)]
    simp only [be,ht]
    by_cases hx:x=b[i]
    ·rw [aK (by simp [hx])]
     exact congrArg some (C6.2 ⟨fun h=>by rw [hx,h],fun h=>(GY h).2⟩)
    ·rw [aY (by simp [hx])]
     exact congrArg some (xG (fun h=>hx (GY h).1)).symm
  have:=key a 0 rfl
  rw [this];simp
 ·rw [aY (by simp;omega)]
  have:a≠b:=fun e=>hl (by rw [e])
  simp [this]
theorem C2(r:ci)(h:r.length≤68719476736):cA r=some r:=by
 unfold cA
 rw [cq (by simpa using h)];rfl
theorem z6(l:List ci)(h: ∀r∈l,r.length≤68719476736)(hl:l.length≤68719476736):tN l=some l:=by
 have key: ∀(m out:List ci),(∀r∈m,r.length≤68719476736)→out.length+m.length≤68719476736→nJ m out=some (out++m):=by
  intro m
  induction m with
  |nil=>intro out _ _;simp [nJ]
  |cons e t ih=>
   intro out h1 h2
   simp only [iY]at h2
   simp only [nJ]
   rw [C2 e (h1 e (kZ ..))]
   simp only [be]
   rw [cq (by simp;omega)]
   simp only [be]
   rw [ih _ (fun r hr=>h1 r (kN _ hr)) (by simp;omega)]
   simp
 have:=key l [] h (by simpa using hl)
 simpa [tN] using this

structure DK{α:Type}(f:α→α→Int):Prop where
 rng: ∀x y,f x y= -1∨f x y=0∨f x y=1
 anti: ∀x y,f y x= -f x y
 eq: ∀x y,f x y=0↔x=y
 trans: ∀x y z,f x y≤0→f y z≤0→f x z≤0
theorem DK.lt(h:DK f){x y z:α}(h1:f x y≤0)(h2:f y z≤0)(h3:f x y<0∨f y z<0):f x z<0:=by
 have h4:=h.trans x y z h1 h2
 rcases h.rng x z with h5|h5|h5
 ·omega
 ·have e:=(h.eq x z).1 h5
  subst e
  have:=h.anti x y
  omega
 ·omega
def JM(c d:Int):Int:=if c !=0 then c else d
theorem DK.lex{β:Type}{g:β→β→Int}(hf:DK f)(hg:DK g):DK (fun(p q:α×β)=>JM (f p.1 q.1) (g p.2 q.2)) where
 rng:=fun x y=>by
  unfold JM
  split
  ·exact hf.rng _ _
  ·exact hg.rng _ _
 anti:=fun x y=>by
  have h1:=hf.anti x.1 y.1
  have h2:=hg.anti x.2 y.2
  unfold JM
  by_cases h:f x.1 y.1=0
  ·have:f y.1 x.1=0:=by omega
   simp [h,this,h2]
  ·have:f y.1 x.1≠0:=by omega
   simp [h,h1]
 eq:=fun x y=>by
  unfold JM
  by_cases h:f x.1 y.1=0
  ·have e:=(hf.eq _ _).1 h
   simp only [h,zP,gm,d9]
   rw [hg.eq]
   exact⟨fun h2=>Prod.ext e h2,fun h2=>by rw [h2]⟩
  ·simp only [qR,o8,h,Da,eg,false_iff]
   intro e
   exact h ((hf.eq _ _).2 (by rw [e]))
 trans:=fun x y z=>by
  unfold JM
  by_cases h1:f x.1 y.1=0
  ·have e:=(hf.eq _ _).1 h1
   simp only [h1,zP,gm,d9]
   rw [←e]
   by_cases h2:f x.1 z.1=0
   ·simp only [h2,zP,gm,d9]
    exact hg.trans _ _ _
   ·simp only [qR,o8,h2,Da,eg]
    exact fun _ h=>h
  ·simp only [qR,o8,h1,Da,eg]
   by_cases h2:f y.1 z.1=0
   ·have e:=(hf.eq _ _).1 h2
    have h5:f x.1 z.1≠0:=by rw [←e];exact h1
    simp only [h5,Da,eg]
    intro h _
    rw [←e];exact h
   ·simp only [h2,Da,eg]
    intro h3 h4
    have:=hf.lt h3 h4 (by omega)
    simp only [show f x.1 z.1≠0 from by omega,Da,eg]
    omega
def LW(p y:Int):Int:=if p<y then -1 else if y<p then 1 else 0
theorem nC:DK LW where
 rng:=fun x y=>by
  unfold LW
  repeat' split
  all_goals omega
 anti:=fun x y=>by unfold LW;repeat' split;all_goals omega
 eq:=fun x y=>by
  unfold LW
  constructor
  ·intro h;repeat' split at h
   all_goals omega
  ·intro h;subst h;simp
 trans:=fun x y z=>by
  unfold LW
  repeat' split
  all_goals omega
theorem Af: ∀a b:xC,Op.bytesLess a b=false→Op.bytesLess b a=false→a=b
 |[],[],_,_=>rfl
 |[],_::_,h,_=>by simp [Op.bytesLess]at h
 |_::_,[],_,h=>by simp [Op.bytesLess]at h
 |x::a,y::b,h,k=>by
  simp only [Op.bytesLess,Bool.or_eq_false_iff,DO,Bool.and_eq_false_imp,sv]at h k
  have e:x=y:=by
   have h1:=h.1
   have h2:=k.1
   exact UInt8.le_antisymm (UInt8.not_lt.1 h2) (UInt8.not_lt.1 h1)
  subst e
  rw [Af a b (h.2 rfl) (k.2 rfl)]
theorem sG: ∀a b c:xC,Op.bytesLess a b=true→Op.bytesLess b c=true→Op.bytesLess a c=true
 |_,[],_,h,_=>by cases ‹List UInt8› <;>simp [Op.bytesLess]at h
 |_,_::_,[],_,h=>by simp [Op.bytesLess]at h
 |[],_::_,_::_,_,_=>rfl
 |x::a,y::b,z::c,h,k=>by
  simp only [Op.bytesLess,pZ,kM,my,sv]at h k ⊢
  rcases h with h|⟨h1,h2⟩
  ·rcases k with k|⟨k1,_⟩
   ·exact .inl (UInt8.lt_trans h k)
   ·subst k1;exact .inl h
  ·subst h1
   rcases k with k|⟨k1,k2⟩
   ·exact .inl k
   ·exact .inr ⟨k1,sG a b c h2 k2⟩
def Q4(p y:xC):Int:=if Op.bytesLess p y then -1 else if p=y then 0 else 1
theorem F4{a b:xC}(h:Op.bytesLess a b=true):Op.bytesLess b a=false:=by
 cases k:Op.bytesLess b a with
 |false=>rfl
 |true=>have:=sG a b a h k;rw [lP]at this;cases this
theorem B0:DK Q4 where
 rng:=fun x y=>by
  unfold Q4
  split
  ·exact .inl rfl
  split
  ·exact .inr (.inl rfl)
  ·exact .inr (.inr rfl)
 anti:=fun x y=>by
  unfold Q4
  cases h:Op.bytesLess x y with
  |true=>
   have h2:=F4 h
   have:y≠x:=fun e=>by rw [e,lP]at h;cases h
   simp [h2,this]
  |false=>
   cases k:Op.bytesLess y x with
   |true=>
    have:x≠y:=fun e=>by rw [e,lP]at k;cases k
    simp [this]
   |false=>have:=Af x y h k;simp [this]
 eq:=fun x y=>by
  unfold Q4
  constructor
  ·intro h;repeat' split at h
   all_goals simp_all
  ·intro h;subst h;simp [lP]
 trans:=fun x y z=>by
  unfold Q4
  intro h1 h2
  cases hxy:Op.bytesLess x y with
  |true=>
   cases hyz:Op.bytesLess y z with
   |true=>simp [sG x y z hxy hyz]
   |false=>
    rw [hyz]at h2
    by_cases e:y=z
    ·subst e;simp [hxy]
    ·simp [e]at h2
  |false=>
   rw [hxy]at h1
   by_cases e:x=y
   ·subst e;exact h2
   ·simp [e]at h1
def key(v:ac):Int×Int×Int×xC:=(v.Kind,v.N,v.U,v.S)
theorem aak(a b c d:Int):YA [a,b,c,d]=JM a (JM b (JM c d)):=by
 simp only [YA,JM]
 by_cases h:d=0
 ·simp [h]
 ·simp [h]
theorem tG(x y:ac):val x y=JM (LW x.Kind y.Kind) (JM (LW x.N y.N) (JM (LW x.U y.U) (Q4 x.S y.S))):=by
 have h:=zY x y
 unfold pD at h
 rw [Jy,HR,HQ,PG]at h
 simp only [be]at h
 rw [CR]at h
 simp only [be,A9]at h
 rw [←h,aak]
 rfl
theorem sN:DK val where
 rng:=fun x y=>by rw [tG];exact(nC.lex (nC.lex (nC.lex B0))).rng (key x) (key y)
 anti:=fun x y=>by rw [tG,tG];exact(nC.lex (nC.lex (nC.lex B0))).anti (key x) (key y)
 eq:=fun x y=>by
  rw [tG]
  refine((nC.lex (nC.lex (nC.lex B0))).eq (key x) (key y)).trans ⟨fun h=>?_,fun h=>by rw [h]⟩
  cases x;cases y
  simp only [key,Prod.mk.injEq]at h
  simp [h]
 trans:=fun x y z=>by rw [tG,tG,tG];exact(nC.lex (nC.lex (nC.lex B0))).trans (key x) (key y) (key z)
theorem fK:DK dV where
 rng:=by
  intro x
  induction x with
  |nil=>intro y;cases y<;>simp [dV]
  |cons a x ih=>
   intro y
   cases y with
   |nil=>simp [dV]
   |cons b y=>
    simp only [dV]
    split
    ·exact sN.rng a b
    ·exact ih y
 anti:=by
  intro x
  induction x with
  |nil=>intro y;cases y<;>simp [dV]
  |cons a x ih=>
   intro y
   cases y with
   |nil=>simp [dV]
   |cons b y=>
    simp only [dV]
    have h:=sN.anti a b
    by_cases h1:val a b=0
    ·have h2:val b a=0:=by omega
     simp [h1,h2,ih y]
    ·have h2:val b a≠0:=by omega
     simp [h1,h]
 eq:=by
  intro x
  induction x with
  |nil=>intro y;cases y<;>simp [dV]
  |cons a x ih=>
   intro y
   cases y with
   |nil=>simp [dV]
   |cons b y=>
    simp only [dV]
    by_cases h1:val a b=0
    ·have e:=(sN.eq a b).1 h1
     subst e
     simp [h1,ih y]
    ·have e:a≠b:=fun e=>h1 ((sN.eq a b).2 e)
     simp [h1,e]
 trans:=by
  intro x
  induction x with
  |nil=>intro y z;cases y<;>cases z<;>simp [dV]
  |cons a x ih=>
   intro y z
   cases y with
   |nil=>simp [dV]
   |cons b y=>
    cases z with
    |nil=>simp [dV]
    |cons c z=>
     simp only [dV]
     by_cases h1:val a b=0
     ·have e:=(sN.eq a b).1 h1
      subst e
      by_cases h2:val a c=0
      ·simp [h1,h2];exact ih y z
      ·simp [h1,h2]
     ·by_cases h2:val b c=0
      ·have e:=(sN.eq b c).1 h2
       subst e
       simp only [h1,h2,qR,o8,Da,eg]
       simp only [G5,d9]
       exact fun h _=>h
      ·simp only [h1,h2,qR,o8,Da,eg]
       intro h3 h4
       have:=sN.lt h3 h4 (by omega)
       rw [aY (by omega)]
       omega

section
def T9(f:α→α→Int)(x y:α):Bool:=decide (f x y<0)
theorem DK.self(h:DK f)(x:α):f x x=0:=(h.eq x x).2 rfl
def s6(f:α→α→Int)(l:List α):Prop:=l.Pairwise (fun a b=>f a b≤0)
theorem zW(h:DK f){a b:List α}(ha:s6 f a)(hb:s6 f b)(hp:a.Perm b):a=b:=
 List.Perm.eq_of_pairwise (le:=fun x y=>f x y≤0) (fun x y _ _ h1 h2=>(h.eq x y).1 (by have:=h.anti x y;omega)) ha hb hp
theorem yP(h:DK f){c:α×α→Option Int}(hc: ∀x y,c (x,y)=some (f x y)){l:List α}(hl:l.length≤1099511627776):AW c l:=by
 have hlt: ∀x y,vh c x y=T9 f x y:=fun x y=>by unfold vh T9;rw [hc]
 refine⟨hl,fun x _ y _=>by rw [hc];rfl,fun x _=>by rw [hlt];unfold T9;rw [h.self];rfl,fun x _ y _ z _ h1 h2=>?_,fun x _ y _ h1 h2=>?_⟩
 ·rw [hlt]at*
  unfold T9 at*
  have h1' :=JU h1
  have h2' :=JU h2
  exact xF (h.lt (by omega) (by omega) (.inl h1'))
 ·rw [hlt]at*
  unfold T9 at*
  have h1' :=of_decide_eq_false h1
  have h2' :=of_decide_eq_false h2
  have:=h.anti x y
  exact(h.eq x y).1 (by omega)
def rQ(f:α→α→Int)(l:List α):List α:=Ab (T9 f) l
theorem iC(f:α→α→Int)(l:List α):(rQ f l).Perm l:=ub _ l
theorem tJ(h:DK f)(l:List α)(hl:l.length≤1099511627776):s6 f (rQ f l):=by
 have hg:=yP h (c:=fun p=>some (f p.1 p.2)) (fun _ _=>rfl) hl
 have:=wN hg l (fun y hy=>hy)
 have e:vh (fun p:α×α=>some (f p.1 p.2))=T9 f:=by funext x y;rfl
 rw [e]at this
 refine this.imp fun{a b} hab=>?_
 unfold T9 at hab
 have h1:=of_decide_eq_false hab
 have:=h.anti b a
 omega
theorem Qo [DecidableEq α](h:DK f){c:α×α→Option Int}(hc: ∀x y,c (x,y)=some (f x y)){l:List α}(hl:l.length≤1099511627776):zX c l=some (rQ f l):=by
 rw [EQ (yP h hc hl)]
 have e:vh c=T9 f:=by funext x y;unfold vh T9;rw [hc]
 rw [e];rfl
def put(f:α→α→Int)(x:α):List α→List α
 |[]=>[x]
 |y::l=>if f x y<0 then x::y::l else y::put f x l
theorem oQ(f:α→α→Int)(l:List α):(rQ f l).length=l.length:=(iC f l).length_eq
end
def um{α:Type} [DecidableEq α]:α→List α→List α
 |_,[]=>[]
 |p,x::t=>if x=p then um x t else x::um x t
theorem BY [DecidableEq α](p:α):um p []=[]:=by unfold um;rfl
theorem zl [DecidableEq α]{p x:α}(h:x=p)(t:List α):um p (x::t)=um x t:=by
 conv=>lhs;unfold um
 rw [aY h]
theorem Eo [DecidableEq α]{p x:α}(h: ¬x=p)(t:List α):um p (x::t)=x::um x t:=by
 conv=>lhs;unfold um
 rw [aK h]
def pj{α:Type} [DecidableEq α]:List α→List α
 |[]=>[]
 |x::t=>x::um x t
theorem LP{α:Type} [DecidableEq α]: ∀(p:α) (l:List α),(um p l).length≤l.length
 |_,[]=>dh _
 |p,x::t=>by
  unfold um
  have:=LP x t
  split<;>simp<;>omega
theorem CP [DecidableEq α](l:List α):(pj l).length≤l.length:=by
 cases l with
 |nil=>exact dh _
 |cons x t=>have:=LP x t;simp [pj];omega
theorem F1{α:Type} [DecidableEq α]: ∀(p:α) (l:List α) (z:α),z∈um p l→z∈l
 |p,x::t,z,h=>by
  unfold um at h
  split at h
  ·exact kN _ (F1 x t z h)
  ·rcases fx.1 h with rfl|h
   ·exact kZ ..
   ·exact kN _ (F1 x t z h)
theorem Fx{α:Type} [DecidableEq α]: ∀(p:α) (l:List α) (z:α),z∈l→z=p∨z∈um p l
 |p,x::t,z,h=>by
  unfold um
  by_cases hx:x=p
  ·rw [aY hx]
   rcases fx.1 h with rfl|h
   ·exact .inl hx
   ·rcases Fx x t z h with h|h
    ·exact .inl (h.trans hx)
    ·exact .inr h
  ·rw [aK hx]
   rcases fx.1 h with rfl|h
   ·exact .inr (kZ ..)
   ·rcases Fx x t z h with h|h
    ·exact .inr (by rw [h];exact kZ ..)
    ·exact .inr (kN _ h)
theorem tm [DecidableEq α](l:List α)(z:α):z∈pj l↔z∈l:=by
 cases l with
 |nil=>exact Iff.rfl
 |cons x t=>
  constructor
  ·intro h
   rcases fx.1 h with rfl|h
   ·exact kZ ..
   ·exact kN _ (F1 x t z h)
  ·intro h
   rcases fx.1 h with rfl|h
   ·exact kZ ..
   ·rcases Fx x t z h with rfl|h
    ·exact kZ ..
    ·exact kN _ h
theorem yH{α:Type} [DecidableEq α]{f:α→α→Int}(hf:DK f): ∀(p:α) (l:List α),s6 f (p::l)→(p::um p l).Pairwise (fun a b=>f a b<0)
 |p,[],_=>List.pairwise_singleton _ _
 |p,x::t,h=>by
  have h1:=Cf.1 h
  unfold um
  by_cases hx:x=p
  ·rw [aY hx]
   subst hx
   exact yH hf x t h1.2
  ·rw [aK hx]
   have h2:=yH hf x t h1.2
   have hlt:f p x<0:=by
    have:=h1.1 x (kZ ..)
    rcases Int.lt_or_eq_of_le this with h|h
    ·exact h
    ·exact absurd ((hf.eq p x).1 h).symm hx
   refine Cf.2 ⟨fun z hz=>?_,h2⟩
   rcases fx.1 hz with rfl|hz
   ·exact hlt
   ·exact hf.lt (by omega) (by have:=(Cf.1 h2).1 z hz;omega) (.inl hlt)
theorem BX [DecidableEq α](hf:DK f){l:List α}(h:s6 f l):(pj l).Pairwise (fun a b=>f a b<0):=by
 cases l with
 |nil=>exact List.Pairwise.nil
 |cons x t=>exact yH hf x t h

abbrev acT:=fK
def Ua(n:Nat):Int:=if 8000<n then 3 else 0
def UU:List (List ci)→Nat→Nat
 |[],n=>n
 |l::t,n=>UU t (max n l.length)
def uq(l:List ci):Bool:=l.all dM
def ZX(ls:List (List ci)):Int:=if ls.all uq then Ua (UU ls 0)else 150
theorem wC(ls:List (List ci)):vG ls=some (ZX ls):=by
 have key2: ∀(l:List ci) (nx:Int→Option Int) (e:List ci) (n:Int),qg nx e n l=if uq l then nx (max n (e.length:Int))else some 150:=by
  intro l
  induction l with
  |nil=>intro nx e n;rfl
  |cons r t ih=>
   intro nx e n
   have ih' :=ih nx e n
   unfold qg
   rw [sS]
   simp only [be]
   rw [ih']
   unfold uq
   cases h:dM r<;>simp [h]
 have key: ∀(ls:List (List ci)) (n:Nat),lx ls (n:Int)=some (if ls.all uq then Ua (UU ls n)else 150):=by
  intro ls
  induction ls with
  |nil=>
   intro n
   show lx [] (n:Int)=some (Ua n)
   unfold lx Ua
   by_cases h:8000<n
   ·rw [aY (by simp;omega),aY h]
   ·rw [aK (by simp;omega),aK h]
  |cons l t ih=>
   intro n
   unfold lx
   rw [key2,show max (n:Int) (l.length:Int)=((max n l.length:Nat):Int)from by omega,ih]
   show _=some (if(uq l&&t.all uq)=true then Ua (UU t (max n l.length))else 150)
   cases h:uq l<;>simp
 exact key ls 0
theorem Sj{n:Nat}(h:n≤8000):Ua n=0:=by unfold Ua;rw [aK (by omega)]
theorem Ik(l:List ci)(h:l.length≤8000):ZX [l]=if uq l then 0 else 150:=by
 show(if(uq l&&true)=true then Ua (max 0 l.length)else 150)=_
 rw [Sj (by omega),xM]
structure HU(l:List ci):Prop where
 len:l.length≤8000
 row: ∀r∈l,r.length≤1000
abbrev oa(l:List ci):List ci:=rQ dV l
theorem zZ(h:HU l):tM l=some (oa l):=by
 unfold tM
 rw [z6 l (fun r hr=>by have:=h.row r hr;omega) (by have:=h.len;omega)]
 simp only [be]
 rw [Qo acT (fun x y=>wB x y) (by have:=h.len;omega)]
 rfl
theorem GB(h:HU l):wE l=some (if uq l then(oa l,0)else([],150)):=by
 unfold wE
 rw [wC,Ik l h.len,zZ h]
 cases uq l<;>rfl
theorem cv{n:Int}(h: -9223372036854775808≤n)(h2:n≤9223372036854775807):IntKind.i64.wrap n=n:=by rw [wk];omega
theorem ma{l m:Nat}(h:l≤m)(h2:m≤xs.length):dE xs (l:Int) (m:Int)=some ((xs.take m).drop l):=by
 unfold dE
 rw [aY (by omega)]
 simp
theorem N7(p:List ci)(hp:p.length≤8000)(i:Nat)(y:List ci)(hy:i+y.length=p.length): ∀(k i1:Nat) (x:List ci) (x1:Nat),i1+k=y.length→0<i1→x.length=p.length→x1+1≤i+i1→x.drop (i+i1-1)=p.drop (i+i1-1)→
  cg pR i y k i1 x (x1:Int)=some (x.take x1++um ((p[i+i1-1]?).getD []) (p.drop (i+i1))):=by
 intro k
 induction k with
 |zero=>
  intro i1 x x1 h1 h0 hx h2 h3
  simp only [cg]
  have hx1:x1≤x.length:=by omega
  rw [ma hx1 (dh _)]
  simp only [be,xQ,A2]
  rw [show((0:Int))=((0:Nat):Int)from rfl,ma (lS _) (by simp;omega)]
  simp only [be,zz]
  have hn:p.drop (i+i1)=[]:=DN (by omega)
  rw [hn,BY,sw,DP (by simp;omega),Ce,Nat.min_self]
 |succ k ih=>
  intro i1 x x1 h1 h0 hx h2 h3
  have e1:x[i+i1]? =p[i+i1]? :=by
   have:=congrArg (fun l:List ci=>l[1]?) h3
   simp only [xK]at this
   rwa [show i+i1-1+1=i+i1 from by omega]at this
  have e0:x[i+i1-1]? =p[i+i1-1]? :=by
   have:=congrArg (fun l:List ci=>l[0]?) h3
   simpa only [xK,xD] using this
  have hlt:i+i1<p.length:=by omega
  have g1:yx x (i:Int) y.length (i1:Int)=some p[i+i1]:=by
   unfold yx
   rw [aY (by omega),show(i:Int)+(i1:Int)=((i+i1:Nat):Int)from by omega,bT,e1,oM hlt]
  have g0:yx x (i:Int) y.length (IntKind.i64.wrap ((i1:Int)-1))=some p[i+i1-1]:=by
   rw [cv (by omega) (by omega)]
   unfold yx
   rw [aY (by omega),show(i:Int)+((i1:Int)-1)=((i+i1-1:Nat):Int)from by omega,bT,e0,oM (by omega)]
  have hd:p.drop (i+i1)=p[i+i1]::p.drop (i+i1+1):=xL hlt
  have hp1:(p[i+i1-1]?).getD []=p[i+i1-1]:=by rw [oM (by omega)];rfl
  simp only [cg,g1,g0,be,wD]
  rw [hd,hp1]
  by_cases hx2:p[i+i1]=p[i+i1-1]
  ·rw [aK (by simp [hx2])]
   have h3' :x.drop (i+(i1+1)-1)=p.drop (i+(i1+1)-1):=by
    have:=congrArg (List.drop 1) h3
    rwa [qL,qL,show i+i1-1+1=i+(i1+1)-1 from by omega]at this
   rw [ih (i1+1) x x1 (by omega) (by omega) hx (by omega) h3']
   rw [zl hx2,show i+(i1+1)-1=i+i1 from by omega,oM hlt,show i+(i1+1)=i+i1+1 from by omega]
   rfl
  ·rw [aY (by simp [hx2]),bT,oM (by omega)]
   simp only [be,A2]
   rw [cv (by omega) (by omega),show((x1:Int)+1)=((x1+1:Nat):Int)from by omega]
   have h3' :(x.set x1 p[i+i1]).drop (i+(i1+1)-1)=p.drop (i+(i1+1)-1):=by
    rw [List.drop_set_of_lt (by omega)]
    have:=congrArg (List.drop 1) h3
    rwa [qL,qL,show i+i1-1+1=i+(i1+1)-1 from by omega]at this
   rw [ih (i1+1) _ (x1+1) (by omega) (by omega) (by simpa using hx) (by omega) h3']
   rw [Eo hx2,show i+(i1+1)-1=i+i1 from by omega,oM hlt,show i+(i1+1)=i+i1+1 from by omega]
   have ht:(x.set x1 p[i+i1]).take (x1+1)=x.take x1++[p[i+i1]]:=by
    rw [J0 (by simp;omega),List.take_set_of_le (by omega)]
    simp
   rw [ht]
   simp
theorem N8(p:List ci)(hp:p.length≤8000):fb p pR=some (pj p):=by
 unfold fb
 by_cases h2:p.length<2
 ·rw [aY (by simp;omega)]
  match p,h2 with
  |[],_=>rfl
  |[x],_=>rfl
 ·rw [aK (by simp;omega)]
  have key: ∀(l:List ci) (i:Nat),p.drop i=l→0<i→i≤p.length→pj p=p.take i++um ((p[i-1]?).getD []) (p.drop i)→cK p pR l i=some (pj p):=by
   intro l
   induction l with
   |nil=>
    intro i h1 h0 hle h3
    have:=Ib.1 h1
    simp only [cK]
    rw [h3,h1,sK (by omega),BY,sw]
   |cons x t ih=>
    intro i h1 h0 hle h3
    have hi:i<p.length:=by
     rcases nW i p.length with h|h
     ·exact h
     ·rw [DN h]at h1;cases h1
    have hx:x=p[i]:=by rw [xL hi]at h1;exact(GY h1).1.symm
    have ht:p.drop (i+1)=t:=by rw [←qL,h1];rfl
    have hp1:(p[i-1]?).getD []=p[i-1]:=by rw [oM (by omega)];rfl
    simp only [cK]
    rw [cv (by omega) (by omega),show(i:Int)-1=((i-1:Nat):Int)from by omega,bT,oM (by omega)]
    simp only [be,wD]
    by_cases he:x=p[i-1]
    ·rw [aY (by simp [he])]
     rw [ma hle (dh _)]
     simp only [be,xQ]
     rw [N7 p hp i (p.drop i) (by simp;omega) _ 1 p i (by simp;omega) (by omega) rfl (by omega) (by simp)]
     rw [h3,h1,hp1,zl he,←ht,hx]
     rw [show i+1-1=i from by omega,oM hi];rfl
    ·rw [aK (by simp [he])]
     refine ih (i+1) ht (by omega) (by omega) ?_
     rw [h3,h1,hp1,Eo he,J0 hi,←ht,hx,show i+1-1=i from by omega,oM hi]
     rw [jX];rfl
  have hpc:p=p[0]::p.drop 1:=by
   have:=xL (l:=p) (i:=0) (by omega)
   simpa using this
  refine key (p.drop 1) 1 rfl (by omega) (by omega) ?_
  have e:(p[1-1]?).getD []=p[0]:=by simp [oM (show 0<p.length by omega)]
  rw [e]
  conv=>lhs;rw [hpc]
  have e2:p.take 1=[p[0]]:=by
   conv=>lhs;rw [hpc]
   rfl
  rw [e2];rfl
theorem DY(h:HU l):sT l=some (if uq l then(pj (oa l),0)else([],150)):=by
 unfold sT
 rw [wC,Ik l h.len,zZ h]
 simp only [be]
 rw [N8 _ (by rw [oQ];exact h.len)]
 cases uq l<;>rfl

theorem Xa(n:Int)(h0:0≤n)(h:n≤68719476736):io n=some []:=by
 unfold io jj
 rw [aK (by simp;omega)]
 have e:IntKind.i64.wrap (n-IntKind.i64.wrap ((0:Int)-0))=n:=by
  rw [cv (n:=(0:Int)-0) (by omega) (by omega),cv (by omega) (by omega)];omega
 rw [e]
 by_cases hp:0<n
 ·rw [aY (by simpa using hp)]
  unfold Xv oe
  rw [aY hp]
  simp only [be]
  rw [aY ⟨h0,h⟩]
  simp only [be]
  rw [show dE (List.replicate n.toNat ([]:ci)) 0 0=some []from by unfold dE;rw [aY (by simp;omega)];simp]
  rfl
 ·rw [aK (by simpa using hp)];rfl
theorem Ou(a b:List ci)(ha:a.length≤8000)(hb:b.length≤8000):eQ [a,b]=some (a++b):=by
 unfold eQ
 simp only [fO]
 rw [cv (n:=(0:Int)+(a.length:Int)) (by omega) (by omega),aK (by simp),cv (by omega) (by omega),aK (by simp;omega),Xa _ (by omega) (by omega)]
 simp only [be,fN]
 rw [cq (by simp;omega)]
 simp only [be,kz]
 rw [cq (by omega)]
 rfl

theorem mb{i j:Int}(l m:Nat)(hi:i=(l:Int))(hj:j=(m:Int))(h:l≤m)(h2:m≤xs.length):dE xs i j=some ((xs.take m).drop l):=by
 subst hi hj;exact ma h h2
theorem hJ{i:Int}(k:Nat)(hi:i=(k:Int)):cN xs i=xs[k]? :=by subst hi;exact bT _ _
def mX(v:ac):Bool:=fT v&&(v.Kind !=4)
theorem tF(v:ac):mC v=some (mX v):=by
 unfold mC mX
 rw [ol]
 cases fT v<;>simp
theorem jB(v:ac):mE v=some (mX v):=by
 unfold mE mX
 rw [ga]
 rfl
theorem KI(h:mX v=true):0≤v.Kind∧v.Kind≤3:=by
 obtain⟨k,n,u,s⟩:=v
 unfold mX fT dL at h
 simp only [my,qR,o8]at h
 obtain⟨h1,h2⟩:=h
 by_cases h0:k=0
 ·simp [h0]
 by_cases k1:k=1
 ·simp [k1]
 by_cases k2:k=2
 ·simp [k2]
 by_cases k3:k=3
 ·simp [k3]
 simp [h0,k1,k2,k3,h2]at h1
def pk(tag:Int):Option Nat:=if tag=1∨tag=2 then some 0 else if 4≤tag∧tag≤7 then some 1 else if 12≤tag∧tag≤23 then some 2 else none
def IP(tag:Int):Int:=match pk tag with
 |some k=>(k:Int)
 |none=> -1
variable{tag:Int}
theorem Ac(tag:Int):pK tag=some (IP tag):=by
 unfold pK IP pk
 by_cases h1:tag=1∨tag=2
 ·rw [aY h1,aY (by simpa using h1)];rfl
 rw [aK h1,aK (by simpa using h1)]
 by_cases h2:4≤tag∧tag≤7
 ·rw [aY h2,aY (by simpa using h2)];rfl
 rw [aK h2,aK (by simpa using h2)]
 by_cases h3:12≤tag∧tag≤23
 ·rw [aY h3,aY (by simpa using h3)];rfl
 rw [aK h3,aK (by simpa using h3)]
theorem qi(tag:Int):yh tag=some (IP tag):=by
 unfold yh Dl IP pk
 by_cases h1:tag=1∨tag=2
 ·rw [aY h1];rcases h1 with rfl|rfl<;>rfl
 rw [aK h1]
 by_cases h2:4≤tag∧tag≤7
 ·rw [aY h2]
  have:tag=4∨tag=5∨tag=6∨tag=7:=by omega
  rcases this with rfl|rfl|rfl|rfl<;>rfl
 rw [aK h2]
 by_cases h3:12≤tag∧tag≤23
 ·rw [aY h3,aK (by simp;omega),aK (by simp;omega),aK (by simp;omega),aK (by simp;omega)];rfl
 rw [aK h3]
 by_cases h4:tag=3∨(8≤tag∧tag≤11)
 ·rw [aY (by simpa using h4)]
 rw [aK (by simpa using h4),aY (by simp;omega)]
 rfl
def JL(n:bp):Bool:=(mU n).getD false
theorem jS(n:bp):mU n=some (JL n):=by
 unfold JL mU
 rw [jB]
 split
 ·rfl
 ·split<;>rfl
theorem FV(n:bp):uX n=some (JL n):=by
 rw [←jS]
 unfold uX mU
 rw [jB,tF]
inductive Tr where
 |lf (n:bp)
 |un (n:bp) (a:Tr)
 |bi (n:bp) (a b:Tr)
 deriving Inhabited
def Tr.size:Tr→Nat
 | .lf _=>1
 | .un _ a=>a.size+1
 | .bi _ a b=>a.size+b.size+1
def ie(n:bp)(l r:Int):bp:={n with L:=l,R:=r}
def Tr.flat:Tr→Nat→List bp
 | .lf n,_=>[ie n (-1) (-1)]
 | .un n a,s=>a.flat s++[ie n ((s+a.size:Nat)-1) (-1)]
 | .bi n a b,s=>a.flat s++b.flat (s+a.size)++[ie n ((s+a.size:Nat)-1) ((s+a.size+b.size:Nat)-1)]
def YE(k:Nat)(n:bp):Prop:=pk n.Tag=some k∧JL n=true∧n.L= -1∧n.R= -1
def Tr.wf:Tr→Prop
 | .lf n=>YE 0 n
 | .un n a=>YE 1 n∧a.wf
 | .bi n a b=>YE 2 n∧a.wf∧b.wf
theorem Tr.size_pos(t:Tr):0<t.size:=by cases t<;>simp [Tr.size]
theorem Tr.flat_len(t:Tr): ∀s,(t.flat s).length=t.size:=by
 induction t with
 |lf n=>intro s;rfl
 |un n a ih=>intro s;simp [Tr.flat,Tr.size,ih]
 |bi n a b iha ihb=>intro s;simp [Tr.flat,Tr.size,iha,ihb];omega
def cd:List Tr→Nat
 |[]=>0
 |t::st=>cd st+t.size
def xk:List Tr→List bp
 |[]=>[]
 |t::st=>xk st++t.flat (cd st)
theorem HG: ∀st:List Tr,(xk st).length=cd st
 |[]=>rfl
 |t::st=>by simp [xk,cd,HG st,t.flat_len]
theorem Hj: ∀st:List Tr,st.length≤cd st
 |[]=>dh _
 |t::st=>by have:=Hj st;have:=t.size_pos;simp [cd];omega
def push(st:List Tr)(n:bp):Option (List Tr):=
 match pk n.Tag,st with
 |some 0,st=>if JL n&&n.L== -1&&n.R== -1 then some (.lf (ie n (-1) (-1))::st)else none
 |some 1,a::st=>if JL n&&n.L==((cd st+a.size:Nat):Int)-1&&n.R== -1 then some (.un (ie n (-1) (-1)) a::st)else none
 |some 2,b::a::st=>if JL n&&n.L==((cd st+a.size:Nat):Int)-1&&n.R==((cd st+a.size+b.size:Nat):Int)-1 then some (.bi (ie n (-1) (-1)) a b::st)else none
 |_,_=>none
def pU:List bp→List Tr→Option (List Tr)
 |[],st=>some st
 |n::ns,st=>(push st n).bind (pU ns)
def wfs(st:List Tr):Prop:= ∀t∈st,t.wf
theorem y8{l r:Int}(h:n.L=l)(h2:n.R=r):ie (ie n (-1) (-1)) l r=n:=by subst h h2;rfl
theorem Qv{st st' :List Tr}(h:push st n=some st')(hw:wfs st):xk st' =xk st++[n]∧cd st' =cd st+1∧wfs st' :=by
 unfold push at h
 split at h
 ·rename_i k st0 hk
  split at h
  ·rename_i hc
   simp only [my,sv]at hc
   obtain⟨⟨h1,h2⟩,h3⟩:=hc
   cases h
   refine⟨?_,rfl,fun t ht=>?_⟩
   ·simp only [xk,Tr.flat]
    rw [y8 h2 h3]
   ·rcases fx.1 ht with rfl|ht
    ·exact⟨hk,h1,rfl,rfl⟩
    ·exact hw t ht
  ·cases h
 ·rename_i k a st0 hk
  split at h
  ·rename_i hc
   simp only [my,sv]at hc
   obtain⟨⟨h1,h2⟩,h3⟩:=hc
   cases h
   refine⟨?_,by simp [cd,Tr.size];omega,fun t ht=>?_⟩
   ·simp only [xk,Tr.flat]
    rw [y8 h2 h3,jX]
   ·rcases fx.1 ht with rfl|ht
    ·exact⟨⟨hk,h1,rfl,rfl⟩,hw a (kZ ..)⟩
    ·exact hw t (kN _ ht)
  ·cases h
 ·rename_i k b a st0 hk
  split at h
  ·rename_i hc
   simp only [my,sv]at hc
   obtain⟨⟨h1,h2⟩,h3⟩:=hc
   cases h
   refine⟨?_,by simp [cd,Tr.size];omega,fun t ht=>?_⟩
   ·simp only [xk,Tr.flat,cd]
    rw [y8 h2 h3]
    simp only [jX]
   ·rcases fx.1 ht with rfl|ht
    ·exact⟨⟨hk,h1,rfl,rfl⟩,hw a (kN _ (kZ ..)),hw b (kZ ..)⟩
    ·exact hw t (kN _ (kN _ ht))
  ·cases h
 ·cases h
variable{ns:List bp}
theorem AC: ∀{ns:List bp} {st st' :List Tr},pU ns st=some st' →wfs st→xk st' =xk st++ns∧wfs st'
 |[],st,st',h,hw=>by cases h;simp [hw]
 |n::ns,st,st',h,hw=>by
  unfold pU at h
  cases hp:push st n with
  |none=>rw [hp]at h;cases h
  |some st1=>
   rw [hp]at h
   obtain⟨h1,_,h3⟩:=Qv hp hw
   obtain⟨h4,h5⟩:=AC (ns:=ns) h h3
   exact⟨by rw [h4,h1];simp,h5⟩
theorem sX: ∀(ns ms:List bp) (st:List Tr),pU (ns++ms) st=(pU ns st).bind (pU ms)
 |[],ms,st=>rfl
 |n::ns,ms,st=>by
  simp only [wl,pU]
  cases push st n with
  |none=>rfl
  |some st1=>exact sX ns ms st1
theorem Nl(t:Tr): ∀(st:List Tr),t.wf→pU (t.flat (cd st)) st=some (t::st):=by
 induction t with
 |lf n=>
  intro st ⟨h1,h2,h3,h4⟩
  have hn' :ie n (-1) (-1)=n:=by cases n;simp only at h3 h4;subst h3 h4;rfl
  simp only [Tr.flat,pU,push,hn']
  rw [h1]
  simp [h2,h3,h4,pU,hn']
 |un n a ih=>
  intro st ⟨⟨h1,h2,h3,h4⟩,ha⟩
  have hn' :ie n (-1) (-1)=n:=by cases n;simp only at h3 h4;subst h3 h4;rfl
  simp only [Tr.flat]
  rw [sX,ih st ha]
  simp only [be,pU,push]
  have e1:(ie n (((cd st+a.size:Nat):Int)-1) (-1)).Tag=n.Tag:=rfl
  rw [e1,h1]
  have e2:JL (ie n (((cd st+a.size:Nat):Int)-1) (-1))=true:=h2
  rw [e2]
  simp only [ie,G4,Bool.and_self,eg,be,pU]
  simp only [ie]at hn'
  rw [hn']
 |bi n a b iha ihb=>
  intro st ⟨⟨h1,h2,h3,h4⟩,ha,hb⟩
  have hn' :ie n (-1) (-1)=n:=by cases n;simp only at h3 h4;subst h3 h4;rfl
  simp only [Tr.flat]
  rw [sX,sX,iha st ha]
  simp only [be]
  have e0:cd st+a.size=cd (a::st):=rfl
  rw [e0,ihb (a::st) hb]
  simp only [be,pU,push]
  have e1:(ie n (((cd (a::st):Nat):Int)-1) (((cd (a::st)+b.size:Nat):Int)-1)).Tag=n.Tag:=rfl
  rw [e1,h1]
  have e2:JL (ie n (((cd (a::st):Nat):Int)-1) (((cd (a::st)+b.size:Nat):Int)-1))=true:=h2
  rw [e2]
  simp only [ie,cd,G4,Bool.and_self,eg,be,pU]
  simp only [ie]at hn'
  rw [hn']
def mM(ns:List bp):Option Tr:=match pU ns []with
 |some [t]=>if ns.length≤1000 then some t else none
 |_=>none
theorem kp{t:Tr}(h:mM ns=some t):t.wf∧ns=t.flat 0∧t.size≤1000:=by
 unfold mM at h
 split at h
 ·rename_i t0 hp
  split at h
  ·rename_i hl
   cases h
   obtain⟨h1,h2⟩:=AC hp (fun t ht=>by cases ht)
   simp only [xk,cd,kz]at h1
   exact⟨h2 t (kZ ..),h1.symm,by rw [←t.flat_len 0,h1];exact hl⟩
  ·cases h
 ·cases h
theorem Kk{t:Tr}(h:t.wf)(hs:t.size≤1000):mM (t.flat 0)=some t:=by
 unfold mM
 have h0:=Nl t [] h
 simp only [cd]at h0
 rw [h0]
 simp only [t.flat_len,hs,eg]
def fl:Tr→Nat→List Int
 | .lf _,s=>[(s:Int)]
 | .un _ a,s=>fl a s++[(s:Int)]
 | .bi _ a b,s=>fl a s++fl b (s+a.size)++[(s:Int)]
def QN:List Tr→List Int
 |[]=>[]
 |t::st=>QN st++fl t (cd st)
def mR:List Tr→List Int
 |[]=>[]
 |t::st=>mR st++[((cd st+t.size:Nat):Int)-1]
theorem wP(t:Tr): ∀s,(fl t s).length=t.size:=by
 induction t with
 |lf n=>intro s;rfl
 |un n a ih=>intro s;simp [fl,Tr.size,ih]
 |bi n a b iha ihb=>intro s;simp [fl,Tr.size,iha,ihb];omega
theorem uU: ∀st:List Tr,(QN st).length=cd st
 |[]=>rfl
 |t::st=>by simp [QN,cd,uU st,wP]
theorem dj: ∀st:List Tr,(mR st).length=st.length
 |[]=>rfl
 |t::st=>by simp [mR,dj st]
theorem U9(t:Tr)(s:Nat):(fl t s)[t.size-1]? =some (s:Int):=by
 cases t with
 |lf n=>rfl
 |un n a=>simp only [fl,Tr.size];rw [tA (by rw [wP];omega),wP];simp
 |bi n a b=>simp only [fl,Tr.size];rw [tA (by simp [wP]),jg,wP,wP];simp
theorem FN(t:Tr)(st:List Tr)(rest:List Int):(QN st++fl t (cd st)++rest)[cd st+t.size-1]? =some (cd st:Int):=by
 have:=t.size_pos
 rw [Ao (by rw [jg,uU,wP];omega),tA (by rw [uU];omega),uU,show cd st+t.size-1-cd st=t.size-1 from by omega]
 exact U9 t _
theorem QO: ∀(ns:List bp) (st:List Tr),cd st+ns.length≤100000→kX ns (cd st) (QN st) (mR st)=some (match pU ns st with
   |some st' =>(QN st',decide (st'.length=1)&&decide (cd st' ≤1000))
   |none=>([],false)):=by
 intro ns
 induction ns with
 |nil=>
  intro st _
  simp only [kX,pU,dj,uU]
  congr 2
  congr 1
  ·rw [AZ];simp;omega
  ·rw [AZ];simp;omega
 |cons n ns ih=>
  intro st hs
  simp only [iY]at hs
  have hll:=Hj st
  unfold kX
  rw [Ac]
  simp only [be,dj,FV]
  unfold pU
  unfold push
  -- the parts
  cases hk:pk n.Tag with
  |none=>
   have e:IP n.Tag= -1:=by unfold IP;rw [hk]
   simp [e]
  |some k=>
   have e:IP n.Tag=(k:Int):=by unfold IP;rw [hk]
   have hk3:k=0∨k=1∨k=2:=by
    unfold pk at hk
    repeat' split at hk
    all_goals simp at hk
    all_goals omega
   rw [e]
   rcases hk3 with rfl|rfl|rfl
   ·-- none
    simp only []
    have c1:(decide (((0:Nat):Int)<0)||decide ((st.length:Int)<((0:Nat):Int)))=false:=by simp
    simp only [c1,Ak,eg,be]
    cases hc:JL n with
    |false=>simp
    |true=>
     simp only [mL,gm,d9,u9]
     rw [mb st.length st.length (by rw [cv (by omega) (by omega)];omega) rfl (dh _) (by rw [dj];exact dh _)]
     have hd:(List.take st.length (mR st)).drop st.length=[]:=Et (by simp;omega)
     simp only [hd,be,mo]
     by_cases hL:n.L= -1∧n.R= -1
     ·have hb:(n.L== -1&&n.R== -1)=true:=by simp [hL]
      rw [aY hb,aK (by simp [hL.1,hL.2])]
      rw [cq (by simp only [iY,pY,uU];omega)]
      simp only [be]
      rw [mb (i:=0) 0 st.length rfl (by rw [dj,cv (by omega) (by omega)];omega) (lS _) (by rw [dj];exact dh _)]
      rw [sK (by rw [dj];exact dh _),zz]
      simp only [be]
      rw [cq (by simp only [iY,pY,dj];omega)]
      simp only [be]
      have h2:=ih (.lf (ie n (-1) (-1))::st) (by simp [cd,Tr.size];omega)
      simp only [cd,Tr.size,QN,fl,mR]at h2
      rw [show(((cd st+1:Nat):Int)-1)=(cd st:Int)from by omega]at h2
      exact h2
     ·have hb:(n.L== -1&&n.R== -1)=false:=by
       rw [rN];intro h;apply hL;simpa using h
      rw [hb]
      rw [aY (by
       simp only [DM,DO]
       intro h
       have h1:(-1:Int)=n.L:=by injection h
       have h2:(-1:Int)=n.R:=by injection h with _ h;injection h
       exact hL ⟨h1.symm,h2.symm⟩)]
      simp
   ·-- one
    cases st with
    |nil=>simp
    |cons a st=>
     simp only []
     have c1:(decide (((1:Nat):Int)<0)||decide (((a::st).length:Int)<((1:Nat):Int)))=false:=by simp;omega
     simp only [c1,Ak,eg,be]
     cases hc:JL n with
     |false=>simp
     |true=>
      simp only [mL,gm,d9,u9]
      simp only [iY]at hll ⊢
      simp only [cd]at hs hll
      have hap:=a.size_pos
      rw [mb st.length (st.length+1) (by rw [cv (by omega) (by omega)];omega) (by omega) (by omega) (by rw [dj];exact dh _)]
      have hd:(List.take (st.length+1) (mR (a::st))).drop st.length=[((cd st+a.size:Nat):Int)-1]:=by
       rw [sK (by rw [dj];exact dh _)]
       simp only [mR]
       rw [Hc (by rw [dj];exact dh _),Et (by rw [dj];exact dh _),kz]
      rw [hd]
      simp only [be,mo]
      rw [hJ (cd st+a.size-1) (by omega)]
      have hf:=FN a st []
      rw [sw]at hf
      simp only [QN]
      rw [hf]
      simp only [be]
      rw [hJ 0 rfl]
      simp only [Gs,be]
      have hset:([(-1:Int),-1].set ((0:Nat):Int).toNat (((cd st+a.size:Nat):Int)-1))=[((cd st+a.size:Nat):Int)-1,-1]:=rfl
      rw [hset]
      by_cases hL:n.L=((cd st+a.size:Nat):Int)-1∧n.R= -1
      ·have hb:(n.L==((cd st+a.size:Nat):Int)-1&&n.R== -1)=true:=by simp [hL]
       rw [aY hb,aK (by rw [hL.1,hL.2];simp)]
       rw [cq (by simp only [iY,pY,jg,uU,wP];omega)]
       simp only [be]
       rw [mb (i:=0) 0 st.length rfl (by rw [dj,cv (by simp<;>omega) (by simp<;>omega)];simp) (lS _) (by rw [dj];simp)]
       have ht:(List.take st.length (mR (a::st))).drop 0=mR st:=by
        simp only [mR,zz]
        rw [DP (by rw [dj];exact dh _),sK (by rw [dj];exact dh _)]
       rw [ht]
       simp only [be]
       rw [cq (by simp only [iY,pY,dj];omega)]
       simp only [be]
       have h2:=ih (.un (ie n (-1) (-1)) a::st) (by simp [cd,Tr.size];omega)
       simp only [cd,Tr.size,QN,fl,mR]at h2
       rw [show(((cd st+(a.size+1):Nat):Int)-1)=((cd st+a.size:Nat):Int)from by omega]at h2
       have hm:min ((cd (a::st):Nat):Int) (cd st:Int)=(cd st:Int):=by simp only [cd];omega
       rw [hm]
       simp only [jX]at h2 ⊢
       exact h2
      ·have hb:(n.L==((cd st+a.size:Nat):Int)-1&&n.R== -1)=false:=by
        rw [rN];intro h;apply hL;simpa using h
       rw [hb]
       rw [aY (by
        simp only [DM,DO]
        intro h
        have h1:((cd st+a.size:Nat):Int)-1=n.L:=by injection h
        have h2:(-1:Int)=n.R:=by injection h with _ h;injection h
        exact hL ⟨h1.symm,h2.symm⟩)]
       simp
   ·-- two
    cases st with
    |nil=>simp
    |cons b st=>
     cases st with
     |nil=>simp
     |cons a st=>
      simp only []
      have c1:(decide (((2:Nat):Int)<0)||decide (((b::a::st).length:Int)<((2:Nat):Int)))=false:=by simp;omega
      simp only [c1,Ak,eg,be]
      cases hc:JL n with
      |false=>simp
      |true=>
       simp only [mL,gm,d9,u9]
       simp only [iY]at hll ⊢
       simp only [cd]at hs hll
       have hap:=a.size_pos
       have hbp:=b.size_pos
       rw [mb st.length (st.length+1+1) (by rw [cv (by omega) (by omega)];omega) (by omega) (by omega) (by rw [dj];exact dh _)]
       have hd:(List.take (st.length+1+1) (mR (b::a::st))).drop st.length=[((cd st+a.size:Nat):Int)-1,((cd st+a.size+b.size:Nat):Int)-1]:=by
        rw [sK (by rw [dj];exact dh _)]
        simp only [mR,cd,jX]
        rw [Hc (by rw [dj];exact dh _),Et (by rw [dj];exact dh _),kz]
        rfl
       rw [hd]
       simp only [be,mo]
       simp only [QN,cd]
       rw [hJ (cd st+a.size-1) (by omega)]
       rw [FN a st (fl b (cd st+a.size))]
       simp only [be]
       rw [hJ 0 rfl]
       simp only [Gs,be]
       have hset:([(-1:Int),-1].set ((0:Nat):Int).toNat (((cd st+a.size:Nat):Int)-1))=[((cd st+a.size:Nat):Int)-1,-1]:=rfl
       rw [hset]
       rw [hJ (cd st+a.size+b.size-1) (by omega)]
       have hf:=FN b (a::st) []
       rw [sw]at hf
       simp only [QN,cd]at hf
       rw [hf]
       simp only [be]
       rw [hJ (0+1) rfl]
       simp only [OA,Gs,be]
       have hset2:([((cd st+a.size:Nat):Int)-1,-1].set ((0+1:Nat):Int).toNat (((cd st+a.size+b.size:Nat):Int)-1))=[((cd st+a.size:Nat):Int)-1,((cd st+a.size+b.size:Nat):Int)-1]:=rfl
       rw [hset2]
       by_cases hL:n.L=((cd st+a.size:Nat):Int)-1∧n.R=((cd st+a.size+b.size:Nat):Int)-1
       ·have hb:(n.L==((cd st+a.size:Nat):Int)-1&&n.R==((cd st+a.size+b.size:Nat):Int)-1)=true:=by rw [hL.1,hL.2];simp
        rw [aY hb,aK (by rw [hL.1,hL.2];simp)]
        rw [cq (by simp only [iY,pY,jg,uU,wP];omega)]
        simp only [be]
        rw [mb (i:=0) 0 st.length rfl (by rw [dj,cv (by simp;omega) (by simp;omega)];simp;omega) (lS _) (by rw [dj];simp;omega)]
        have ht:(List.take st.length (mR (b::a::st))).drop 0=mR st:=by
         simp only [mR,zz,jX]
         rw [DP (by rw [dj];exact dh _),sK (by rw [dj];exact dh _)]
        rw [ht]
        simp only [be]
        rw [cq (by simp only [iY,pY,dj];omega)]
        simp only [be]
        have h2:=ih (.bi (ie n (-1) (-1)) a b::st) (by simp [cd,Tr.size];omega)
        simp only [cd,Tr.size,QN,fl,mR]at h2
        rw [show(((cd st+(a.size+b.size+1):Nat):Int)-1)=((cd st+a.size+b.size:Nat):Int)from by omega,show cd st+(a.size+b.size+1)=cd st+a.size+b.size+1 from by omega]at h2
        have hm:min (min (((cd st+a.size+b.size:Nat)):Int) (cd st:Int)) ((cd st+a.size:Nat):Int)=(cd st:Int):=by omega
        rw [hm]
        simp only [jX]at h2 ⊢
        exact h2
       ·have hb:(n.L==((cd st+a.size:Nat):Int)-1&&n.R==((cd st+a.size+b.size:Nat):Int)-1)=false:=by
         rw [rN];intro h;apply hL;simpa using h
        rw [hb]
        rw [aY (by
         simp only [DM,DO]
         intro h
         have h1:((cd st+a.size:Nat):Int)-1=n.L:=by injection h
         have h2:((cd st+a.size+b.size:Nat):Int)-1=n.R:=by injection h with _ h;injection h
         exact hL ⟨h1.symm,h2.symm⟩)]
        simp

theorem m4{n:Nat}(h:n≤1000000):n≤iN:=by unfold iN;omega
def kh(ns:List bp):Bool:=(mM ns).isSome
theorem KK{st:List Tr}(h:pU ns []=some st):cd st=ns.length:=by
 have:=(AC h (fun t ht=>by cases ht)).1
 rw [←HG,this];simp [xk]
theorem vk(e:bJ)(h:e.Nodes.length≤100000):rm e=some (if kh e.Nodes then 0 else 200):=by
 unfold rm yD kh mM
 have:=QO e.Nodes [] (by simpa [cd] using h)
 simp only [cd,QN,mR]at this
 rw [this]
 cases hp:pU e.Nodes []with
 |none=>rfl
 |some st=>
  have hsz:=KK hp
  match st,hsz with
  |[],_=>rfl
  |[t],hsz=>
   simp only [be,hsz]
   by_cases hl:e.Nodes.length≤1000<;>simp [hl]
  |t::t2::st,_=>simp
theorem Up(t:Tr):t.wf→ ∀(P R N:List bp) (fu:Nat),N=P++t.flat P.length++R→t.size≤fu→N.length≤100000→jw fu ⟨N⟩ (((P.length+t.size:Nat):Int)-1)=some (t.size:Int):=by
 induction t with
 |lf n=>
  intro⟨h1,h2,h3,h4⟩ P R N fu hN hf hl
  have hNl:=congrArg List.length hN
  simp only [jg,Tr.flat_len]at hNl
  simp only [Tr.size]at hf hNl ⊢
  obtain⟨fu,rfl⟩: ∃k,fu=k+1:=⟨fu-1,by omega⟩
  unfold jw
  have hx:N[P.length]? =some (ie n (-1) (-1)):=by
   rw [hN,jX,tA (dh _),zy];rfl
  rw [aK (by simp;omega),hJ P.length (by omega),hx]
  have e1:(ie n (-1) (-1)).Tag=n.Tag:=rfl
  simp only [be]
  rw [e1,qi]
  have e:IP n.Tag=0:=by unfold IP;rw [h1];rfl
  simp only [e,be,jS]
  have e2:JL (ie n (-1) (-1))=true:=h2
  rw [e2]
  simp [ie]
 |un n a ih=>
  intro⟨⟨h1,h2,h3,h4⟩,ha⟩ P R N fu hN hf hl
  obtain⟨m,hm⟩: ∃m,m=ie n (((P.length+a.size:Nat):Int)-1) (-1):=⟨_,rfl⟩
  have hNl:=congrArg List.length hN
  simp only [jg,Tr.flat_len]at hNl
  simp only [Tr.size]at hf hNl ⊢
  simp only [Tr.flat,←hm]at hN
  obtain⟨fu,rfl⟩: ∃k,fu=k+1:=⟨fu-1,by omega⟩
  have hpos:=a.size_pos
  have hi:=ih ha P ([m]++R) N fu (by rw [hN];simp only [jX]) (by omega) hl
  unfold jw
  have hx:N[P.length+a.size]? =some m:=by
   rw [hN,jX,jX,←jX P,tA (by simp [a.flat_len])]
   simp [a.flat_len]
  rw [aK (by simp;omega),hJ (P.length+a.size) (by omega),hx]
  simp only [be]
  have e1:m.Tag=n.Tag:=by rw [hm];rfl
  rw [e1,qi]
  have e:IP n.Tag=1:=by unfold IP;rw [h1];rfl
  simp only [e,be,jS]
  have e2:JL m=true:=by rw [hm];exact h2
  have eL:m.L=((P.length+a.size:Nat):Int)-1:=by rw [hm];rfl
  have eR:m.R= -1:=by rw [hm];rfl
  rw [cv (n:=((P.length+(a.size+1):Nat):Int)-1-1) (by omega) (by omega),show(((P.length+(a.size+1):Nat):Int)-1-1)=(((P.length+a.size:Nat):Int)-1)from by omega]
  rw [hi]
  simp only [be]
  rw [cv (n:=(a.size:Int)+1) (by omega) (by omega)]
  have n1: ¬a.size=0:=by omega
  simp [e2,eL,eR,n1]
 |bi n a b iha ihb=>
  intro⟨⟨h1,h2,h3,h4⟩,ha,hb⟩ P R N fu hN hf hl
  obtain⟨m,hm⟩: ∃m,m=ie n (((P.length+a.size:Nat):Int)-1) (((P.length+a.size+b.size:Nat):Int)-1):=⟨_,rfl⟩
  have hNl:=congrArg List.length hN
  simp only [jg,Tr.flat_len]at hNl
  simp only [Tr.size]at hf hNl ⊢
  simp only [Tr.flat,←hm]at hN
  obtain⟨fu,rfl⟩: ∃k,fu=k+1:=⟨fu-1,by omega⟩
  have hap:=a.size_pos
  have hbp:=b.size_pos
  have hi1:=iha ha P (b.flat (P.length+a.size)++[m]++R) N fu (by rw [hN];simp only [jX]) (by omega) hl
  have hi2:=ihb hb (P++a.flat P.length) ([m]++R) N fu (by rw [hN];simp only [jX,jg,a.flat_len]) (by omega) hl
  rw [jg,a.flat_len]at hi2
  unfold jw
  have hx:N[P.length+a.size+b.size]? =some m:=by
   rw [hN,jX,jX,←jX P,tA (by simp [a.flat_len,b.flat_len];omega)]
   have:P.length+a.size+b.size-(P++(a.flat P.length++b.flat (P.length+a.size))).length=0:=by simp [a.flat_len,b.flat_len];omega
   rw [this];rfl
  rw [aK (by simp;omega),hJ (P.length+a.size+b.size) (by omega),hx]
  simp only [be]
  have e1:m.Tag=n.Tag:=by rw [hm];rfl
  rw [e1,qi]
  have e:IP n.Tag=2:=by unfold IP;rw [h1];rfl
  simp only [e,be,jS]
  have e2:JL m=true:=by rw [hm];exact h2
  have eL:m.L=((P.length+a.size:Nat):Int)-1:=by rw [hm];rfl
  have eR:m.R=((P.length+a.size+b.size:Nat):Int)-1:=by rw [hm];rfl
  rw [cv (n:=((P.length+(a.size+b.size+1):Nat):Int)-1-1) (by omega) (by omega),show(((P.length+(a.size+b.size+1):Nat):Int)-1-1)=(((P.length+a.size+b.size:Nat):Int)-1)from by omega]
  rw [hi2]
  simp only [be]
  rw [cv (n:=((P.length+a.size+b.size:Nat):Int)-1-(b.size:Int)) (by omega) (by omega),show((P.length+a.size+b.size:Nat):Int)-1-(b.size:Int)=((P.length+a.size:Nat):Int)-1 from by omega]
  rw [hi1]
  simp only [be]
  rw [cv (n:=(a.size:Int)+(b.size:Int)) (by omega) (by omega),cv (n:=(a.size:Int)+(b.size:Int)+1) (by omega) (by omega)]
  have n1: ¬a.size=0:=by omega
  have n2: ¬b.size=0:=by omega
  have e5:(P.length:Int)+(a.size:Int)+(b.size:Int)-1-(b.size:Int)=(P.length:Int)+(a.size:Int)-1:=by omega
  simp [e2,eL,eR,n1,n2,e5]
theorem Uq(N:List bp)(hN:N.length≤100000): ∀(fu q:Nat),q≤N.length→q<fu→ ∃k:Nat,jw fu ⟨N⟩ ((q:Int)-1)=some (k:Int)∧(k=0∨ ∃(t:Tr) (P R:List bp),t.wf∧t.size=k∧N=P++t.flat P.length++R∧P.length+k=q):=by
 intro fu
 induction fu with
 |zero=>intro q _ h;omega
 |succ fu ih=>
  intro q hq hf
  unfold jw
  by_cases h0:q=0
  ·subst h0
   exact⟨0,by rw [aY (by simp)];rfl,.inl rfl⟩
  rw [aK (by simp;omega),hJ (q-1) (by omega)]
  have hlt:q-1<N.length:=by omega
  rw [oM hlt]
  obtain⟨n,hn⟩: ∃n,n=N[q-1]:=⟨_,rfl⟩
  rw [←hn]
  have hd:N=N.take (q-1)++([n]++N.drop q):=by
   have h1:=wn (q-1) N
   rw [xL hlt,←hn,show q-1+1=q from by omega]at h1
   exact h1.symm
  simp only [be,qi,jS]
  cases hk:pk n.Tag with
  |none=>
   have e:IP n.Tag= -1:=by unfold IP;rw [hk]
   exact⟨0,by simp [e],.inl rfl⟩
  |some k=>
   have e:IP n.Tag=(k:Int):=by unfold IP;rw [hk]
   have hk3:k=0∨k=1∨k=2:=by
    unfold pk at hk
    repeat' split at hk
    all_goals simp at hk
    all_goals omega
   cases hc:JL n with
   |false=>exact⟨0,by simp [e,hc],.inl rfl⟩
   |true=>
    rcases hk3 with rfl|rfl|rfl
    ·rw [e]
     by_cases hL:n.L= -1∧n.R= -1
     ·refine⟨1,by simp [hL],.inr ⟨.lf (ie n (-1) (-1)),N.take (q-1),N.drop q,⟨hk,hc,rfl,rfl⟩,rfl,?_,by simp;omega⟩⟩
      simp only [Tr.flat]
      rw [y8 hL.1 hL.2,jX]
      exact hd
     ·refine⟨0,?_,.inl rfl⟩
      have:(n.L != -1||n.R != -1)=true:=by
       rw [pZ,qR,qR]
       by_cases hl:n.L= -1
       ·exact .inr fun h=>hL ⟨hl,h⟩
       ·exact .inl hl
      simp [this]
    ·rw [e,cv (by omega) (by omega)]
     have e9:(((q-1:Nat):Int)-1)=(q:Int)-1-1:=by omega
     obtain⟨r2,h2,h2'⟩:=ih (q-1) (by omega) (by omega)
     rw [e9]at h2
     rw [h2]
     rcases h2' with rfl|⟨t,P,R,hw,hs,hN2,hl⟩
     ·exact⟨0,by simp,.inl rfl⟩
     ·have hp:=t.size_pos
      by_cases hL:n.L=(q:Int)-1-1∧n.R= -1
      ·refine⟨r2+1,?_,.inr ⟨.un (ie n (-1) (-1)) t,P,N.drop q,⟨⟨hk,hc,rfl,rfl⟩,hw⟩,by simp only [Tr.size];omega,?_,by omega⟩⟩
       ·simp only [be]
        rw [cv (n:=(r2:Int)+1) (by omega) (by omega)]
        have: ¬(r2=0):=by omega
        simp [hL,this]
       ·simp only [Tr.flat]
        rw [y8 (by rw [hL.1];omega) hL.2]
        have ht:N.take (q-1)=P++t.flat P.length:=by
         rw [hN2,DP (by simp [t.flat_len];omega),sK (by simp [t.flat_len];omega)]
        rw [ht]at hd
        simpa only [jX] using hd
      ·refine⟨0,?_,.inl rfl⟩
       have:(n.L !=(q:Int)-1-1||n.R != -1)=true:=by
        rw [pZ,qR,qR]
        by_cases hl:n.L=(q:Int)-1-1
        ·exact .inr fun h=>hL ⟨hl,h⟩
        ·exact .inl hl
       simp [this]
    ·rw [e,cv (n:=(q:Int)-1-1) (by omega) (by omega)]
     have e9:(((q-1:Nat):Int)-1)=(q:Int)-1-1:=by omega
     obtain⟨r2,h2,h2'⟩:=ih (q-1) (by omega) (by omega)
     rw [e9]at h2
     rw [h2]
     rcases h2' with rfl|⟨t,P,R,hw,hs,hN2,hl⟩
     ·exact⟨0,by simp,.inl rfl⟩
     ·have hp:=t.size_pos
      simp only [be]
      rw [cv (n:=(q:Int)-1-1-(r2:Int)) (by omega) (by omega)]
      have e8:(((q-1-r2:Nat):Int)-1)=(q:Int)-1-1-(r2:Int):=by omega
      have n2: ¬(r2=0):=by omega
      obtain⟨r3,h3,h3'⟩:=ih (q-1-r2) (by omega) (by omega)
      rw [e8]at h3
      rw [h3]
      rcases h3' with rfl|⟨t3,P3,R3,hw3,hs3,hN3,hl3⟩
      ·exact⟨0,by simp,.inl rfl⟩
      ·have hp3:=t3.size_pos
       have n3: ¬(r3=0):=by omega
       by_cases hL:n.R=(q:Int)-1-1∧n.L=(q:Int)-1-1-(r2:Int)
       ·refine⟨r3+r2+1,?_,.inr ⟨.bi (ie n (-1) (-1)) t3 t,P3,N.drop q,⟨⟨hk,hc,rfl,rfl⟩,hw3,hw⟩,by simp only [Tr.size];omega,?_,by omega⟩⟩
        ·simp only [be]
         rw [cv (n:=(r3:Int)+(r2:Int)) (by omega) (by omega),cv (n:=(r3:Int)+(r2:Int)+1) (by omega) (by omega)]
         simp [hL,n2,n3]
        ·simp only [Tr.flat]
         rw [y8 (by rw [hL.2];omega) (by rw [hL.1];omega)]
         have ht:N.take (q-1)=P++t.flat P.length:=by
          rw [hN2,DP (by simp [t.flat_len];omega),sK (by simp [t.flat_len];omega)]
         have hP:P=N.take P.length:=by
          conv=>rhs;rw [hN2,jX,DP (dh _),sK (dh _)]
         have hP3:P=P3++t3.flat P3.length:=by
          rw [hP]
          have:P.length=P3.length+t3.size:=by omega
          conv=>lhs;rw [this,hN3]
          rw [DP (by simp [t3.flat_len]),sK (by simp [t3.flat_len])]
         have hPl:P.length=P3.length+t3.size:=by omega
         rw [ht,hPl]at hd
         rw [hP3]at hd
         simpa only [jX] using hd
       ·clear ih hN2 hN3
        refine⟨0,?_,.inl rfl⟩
        have:(n.R !=(q:Int)-1-1||n.L !=(q:Int)-1-1-(r2:Int))=true:=by
         rw [pZ,qR,qR]
         by_cases hl:n.R=(q:Int)-1-1
         ·exact .inr fun h=>hL ⟨hl,h⟩
         ·exact .inl hl
        have h' :=this
        rw [pZ,qR,qR]at h'
        simp [n2,n3]
        intro h1 h2
        exact absurd h2 (by rcases h' with h' |h';exact absurd h1 h';exact h')
theorem yg(e:bJ):uL e=some (kh e.Nodes):=by
 unfold uL kh
 by_cases h:1≤e.Nodes.length∧e.Nodes.length≤1000
 ·rw [aY (by simp;omega),cv (by omega) (by omega)]
  unfold Fa
  obtain⟨k,h1,h2⟩:=Uq e.Nodes (by omega) iN e.Nodes.length (dh _) (xJ (Es _) (m4 (by omega)))
  have h1' :jw iN e ((e.Nodes.length:Int)-1)=some (k:Int):=h1
  rw [h1']
  simp only [be]
  congr 1
  rw [AZ]
  constructor
  ·intro hk
   have hk' :k=e.Nodes.length:=by have:=eq_of_beq hk;omega
   rcases h2 with rfl|⟨t,P,R,hw,hs,hN,hl⟩
   ·omega
   ·have hP:P=[]:=uD (by omega)
    subst hP
    have hR:R=[]:=by
     have:=congrArg List.length hN
     simp [t.flat_len]at this
     exact uD (by omega)
    subst hR
    have hN' :e.Nodes=t.flat 0:=by simpa using hN
    rw [hN',Kk hw (by omega)];rfl
  ·intro hi
   cases ht:mM e.Nodes with
   |none=>rw [ht]at hi;cases hi
   |some t=>
    obtain⟨hw,hN,hs⟩:=kp ht
    have hlen:e.Nodes.length=t.size:=by rw [hN,t.flat_len]
    have h3:=Up t hw [] [] e.Nodes iN (by simpa using hN) (m4 (by omega)) (by omega)
    simp only [pY,qS]at h3
    rw [←hlen]at h3
    have h4:some (k:Int)=some (e.Nodes.length:Int):=h1.symm.trans h3
    simpa using h4
 ·rw [aK (by simp;omega)]
  simp only [be]
  congr 1
  symm
  rw [rN]
  intro hi
  cases ht:mM e.Nodes with
  |none=>rw [ht]at hi;cases hi
  |some t=>
   obtain⟨hw,hN,hs⟩:=kp ht
   have hlen:e.Nodes.length=t.size:=by rw [hN,t.flat_len]
   have:=t.size_pos
   omega
theorem Nf(h:kh ns=true):1≤ns.length∧ns.length≤1000:=by
 unfold kh at h
 cases ht:mM ns with
 |none=>rw [ht]at h;cases h
 |some t=>
  obtain⟨hw,hN,hs⟩:=kp ht
  have hlen:ns.length=t.size:=by rw [hN,t.flat_len]
  have:=t.size_pos
  omega

theorem LS(p:List Int)(hp:p.length≤8000)(i:Nat)(y:List Int)(hy:i+y.length=p.length): ∀(k i1:Nat) (x:List Int) (x1:Nat),i1+k=y.length→0<i1→x.length=p.length→x1+1≤i+i1→x.drop (i+i1-1)=p.drop (i+i1-1)→
  dZ i y k i1 x (x1:Int)=some (x.take x1++um ((p[i+i1-1]?).getD 0) (p.drop (i+i1))):=by
 intro k
 induction k with
 |zero=>
  intro i1 x x1 h1 h0 hx h2 h3
  simp only [dZ]
  have hx1:x1≤x.length:=by omega
  rw [ma hx1 (dh _)]
  simp only [be,xQ,A2]
  rw [show((0:Int))=((0:Nat):Int)from rfl,ma (lS _) (by simp;omega)]
  simp only [be,zz]
  have hn:p.drop (i+i1)=[]:=DN (by omega)
  rw [hn,BY,sw,DP (by simp;omega),Ce,Nat.min_self]
 |succ k ih=>
  intro i1 x x1 h1 h0 hx h2 h3
  have e1:x[i+i1]? =p[i+i1]? :=by
   have:=congrArg (fun l:List Int=>l[1]?) h3
   simp only [xK]at this
   rwa [show i+i1-1+1=i+i1 from by omega]at this
  have e0:x[i+i1-1]? =p[i+i1-1]? :=by
   have:=congrArg (fun l:List Int=>l[0]?) h3
   simpa only [xK,xD] using this
  have hlt:i+i1<p.length:=by omega
  have g1:yx x (i:Int) y.length (i1:Int)=some p[i+i1]:=by
   unfold yx
   rw [aY (by omega),show(i:Int)+(i1:Int)=((i+i1:Nat):Int)from by omega,bT,e1,oM hlt]
  have g0:yx x (i:Int) y.length (IntKind.i64.wrap ((i1:Int)-1))=some p[i+i1-1]:=by
   rw [cv (by omega) (by omega)]
   unfold yx
   rw [aY (by omega),show(i:Int)+((i1:Int)-1)=((i+i1-1:Nat):Int)from by omega,bT,e0,oM (by omega)]
  have hd:p.drop (i+i1)=p[i+i1]::p.drop (i+i1+1):=xL hlt
  have hp1:(p[i+i1-1]?).getD 0=p[i+i1-1]:=by rw [oM (by omega)];rfl
  simp only [dZ,g1,g0,be]
  rw [hd,hp1]
  by_cases hx2:p[i+i1]=p[i+i1-1]
  ·rw [aK (by simp [hx2])]
   have h3' :x.drop (i+(i1+1)-1)=p.drop (i+(i1+1)-1):=by
    have:=congrArg (List.drop 1) h3
    rwa [qL,qL,show i+i1-1+1=i+(i1+1)-1 from by omega]at this
   rw [ih (i1+1) x x1 (by omega) (by omega) hx (by omega) h3']
   rw [zl hx2,show i+(i1+1)-1=i+i1 from by omega,oM hlt,show i+(i1+1)=i+i1+1 from by omega]
   rfl
  ·rw [aY (by simp [hx2]),bT,oM (by omega)]
   simp only [be,A2]
   rw [cv (by omega) (by omega),show((x1:Int)+1)=((x1+1:Nat):Int)from by omega]
   have h3' :(x.set x1 p[i+i1]).drop (i+(i1+1)-1)=p.drop (i+(i1+1)-1):=by
    rw [List.drop_set_of_lt (by omega)]
    have:=congrArg (List.drop 1) h3
    rwa [qL,qL,show i+i1-1+1=i+(i1+1)-1 from by omega]at this
   rw [ih (i1+1) _ (x1+1) (by omega) (by omega) (by simpa using hx) (by omega) h3']
   rw [Eo hx2,show i+(i1+1)-1=i+i1 from by omega,oM hlt,show i+(i1+1)=i+i1+1 from by omega]
   have ht:(x.set x1 p[i+i1]).take (x1+1)=x.take x1++[p[i+i1]]:=by
    rw [J0 (by simp;omega),List.take_set_of_le (by omega)]
    simp
   rw [ht]
   simp
theorem LT(p:List Int)(hp:p.length≤8000):kg p=some (pj p):=by
 unfold kg
 by_cases h2:p.length<2
 ·rw [aY (by simp;omega)]
  match p,h2 with
  |[],_=>rfl
  |[x],_=>rfl
 ·rw [aK (by simp;omega)]
  have key: ∀(l:List Int) (i:Nat),p.drop i=l→0<i→i≤p.length→pj p=p.take i++um ((p[i-1]?).getD 0) (p.drop i)→eV p l i=some (pj p):=by
   intro l
   induction l with
   |nil=>
    intro i h1 h0 hle h3
    have:=Ib.1 h1
    simp only [eV]
    rw [h3,h1,sK (by omega),BY,sw]
   |cons x t ih=>
    intro i h1 h0 hle h3
    have hi:i<p.length:=by
     rcases nW i p.length with h|h
     ·exact h
     ·rw [DN h]at h1;cases h1
    have hx:x=p[i]:=by rw [xL hi]at h1;exact(GY h1).1.symm
    have ht:p.drop (i+1)=t:=by rw [←qL,h1];rfl
    have hp1:(p[i-1]?).getD 0=p[i-1]:=by rw [oM (by omega)];rfl
    simp only [eV]
    rw [cv (by omega) (by omega),show(i:Int)-1=((i-1:Nat):Int)from by omega,bT,oM (by omega)]
    simp only [be]
    by_cases he:x=p[i-1]
    ·rw [aY (by simp [he])]
     rw [ma hle (dh _)]
     simp only [be,xQ]
     rw [LS p hp i (p.drop i) (by simp;omega) _ 1 p i (by simp;omega) (by omega) rfl (by omega) (by simp)]
     rw [h3,h1,hp1,zl he,←ht,hx]
     rw [show i+1-1=i from by omega,oM hi];rfl
    ·rw [aK (by simp [he])]
     refine ih (i+1) ht (by omega) (by omega) ?_
     rw [h3,h1,hp1,Eo he,J0 hi,←ht,hx,show i+1-1=i from by omega,oM hi]
     rw [jX];rfl
  have hpc:p=p[0]::p.drop 1:=by
   have:=xL (l:=p) (i:=0) (by omega)
   simpa using this
  refine key (p.drop 1) 1 rfl (by omega) (by omega) ?_
  have e:(p[1-1]?).getD 0=p[0]:=by simp [oM (show 0<p.length by omega)]
  rw [e]
  conv=>lhs;rw [hpc]
  have e2:p.take 1=[p[0]]:=by
   conv=>lhs;rw [hpc]
   rfl
  rw [e2];rfl

theorem QC(l:List Int)(z:Int):z∈sortI l↔z∈l:=by unfold sortI;simp
theorem AX: ∀(ns:List bp) (out:List Int),out.length+ns.length≤8000→ ∃cs,nd ns out=some cs∧ ∀c,c∈cs↔c∈out∨ ∃n∈ns,n.Tag=2∧n.Col=c
 |[],out,h=>by
  unfold nd EP
  rw [aY (by simp at h;omega)]
  simp only [be]
  rw [LT _ (by rw [Cn];simpa using h)]
  exact⟨_,rfl,fun c=>by rw [tm,QC];simp⟩
 |n::ns,out,h=>by
  simp only [iY]at h
  unfold nd
  by_cases ht:n.Tag=2
  ·rw [aY (by simp [ht]),cq (by simp;omega)]
   simp only [be]
   obtain⟨cs,h1,h2⟩:=AX ns (out++[n.Col]) (by simp;omega)
   exact⟨cs,h1,fun c=>by rw [h2];simp [ht,or_assoc,eq_comm]⟩
  ·rw [aK (by simp [ht])]
   obtain⟨cs,h1,h2⟩:=AX ns out (by omega)
   exact⟨cs,h1,fun c=>by rw [h2];simp [ht]⟩
theorem BN(e:bJ)(h:kh e.Nodes=true): ∃cs,tt e=some cs∧ ∀c,c∈cs↔ ∃n∈e.Nodes,n.Tag=2∧n.Col=c:=by
 have hl:=Nf h
 unfold tt
 rw [vk e (by omega),h]
 obtain⟨cs,h1,h2⟩:=AX e.Nodes [] (by simp;omega)
 exact⟨cs,by simpa using h1,fun c=>by rw [h2];simp⟩
def kn(tag l r:Int):Int×Bool:=(jl tag l r).getD (0,false)
theorem z7(tag l r:Int):jl tag l r=some (kn tag l r):=by
 unfold kn jl iI
 simp only [be]
 repeat' split
 all_goals simp
def k4(k:Int):Prop:=k=0∨k=1∨k=2∨k=3
theorem Xt(tag l r:Int):k4 (kn tag l r).1:=by
 unfold kn jl iI
 simp only [be]
 repeat' split
 all_goals simp [k4]
variable{kinds:List Int}
theorem Ot(kinds:List Int)(n:bp)(x:Int)(hx:k4 x)(hk:pk n.Tag=some 1):jI kinds n [x]=some (if(kn n.Tag x 0).2 then((kn n.Tag x 0).1,0)else(0,201)):=by
 obtain⟨tag,L,R,col,v⟩:=n
 have ht:tag=4∨tag=5∨tag=6∨tag=7:=by
  unfold pk at hk
  repeat' split at hk
  all_goals simp at hk
  rename_i h
  have h:4≤tag∧tag≤7:=h
  omega
 rcases ht with rfl|rfl|rfl|rfl<;>rcases hx with rfl|rfl|rfl|rfl<;>rfl
theorem Oq(kinds:List Int)(n:bp)(x y:Int)(hx:k4 x)(hy:k4 y)(hk:pk n.Tag=some 2):jI kinds n [x,y]=some (if(kn n.Tag x y).2 then((kn n.Tag x y).1,0)else(0,201)):=by
 obtain⟨tag,L,R,col,v⟩:=n
 have ht:tag=12∨tag=13∨tag=14∨tag=15∨tag=16∨tag=17∨tag=18∨tag=19∨tag=20∨tag=21∨tag=22∨tag=23:=by
  unfold pk at hk
  repeat' split at hk
  all_goals simp at hk
  rename_i h
  have h:12≤tag∧tag≤23:=h
  omega
 rcases ht with rfl|rfl|rfl|rfl|rfl|rfl|rfl|rfl|rfl|rfl|rfl|rfl<;>rcases hx with rfl|rfl|rfl|rfl<;>rcases hy with rfl|rfl|rfl|rfl<;>rfl
def kd(kinds:List Int):Tr→Option Int
 | .lf n=>if n.Tag=1 then some n.Value.Kind else some ((kinds[n.Col.toNat]?).getD 0)
 | .un n a=>(kd kinds a).bind fun x=>if(kn n.Tag x 0).2 then some (kn n.Tag x 0).1 else none
 | .bi n a b=>(kd kinds a).bind fun x=>(kd kinds b).bind fun y=>if(kn n.Tag x y).2 then some (kn n.Tag x y).1 else none
theorem O6(kinds:List Int)(n:bp)(a:Tr):kd kinds (.un n a)=(kd kinds a).bind fun x=>if(kn n.Tag x 0).2 then some (kn n.Tag x 0).1 else none:=rfl
theorem Lt(kinds:List Int)(n:bp)(a b:Tr):kd kinds (.bi n a b)=(kd kinds a).bind fun x=>(kd kinds b).bind fun y=>if(kn n.Tag x y).2 then some (kn n.Tag x y).1 else none:=rfl
def DD(m:Nat):Tr→Prop
 | .lf n=>n.Tag=2→n.Col<m
 | .un _ a=>DD m a
 | .bi _ a b=>DD m a∧DD m b
theorem ZQ(h:pk tag=some 0):tag=1∨tag=2:=by
 unfold pk at h
 repeat' split at h
 all_goals simp at h
 assumption
theorem pk2(h:pk tag=some k)(ht:tag=2):k=0:=by subst ht;simp [pk]at h;exact h.symm
theorem aaZ(h:JL n=true)(ht:n.Tag=1):mX n.Value=true:=by
 have h2:=jS n
 rw [h]at h2
 unfold mU at h2
 rw [aY (by simp [ht]),jB]at h2
 simp at h2
 exact h2.1
theorem N9(h:JL n=true)(ht:n.Tag=2):0≤n.Col∧n.Col<16:=by
 have h2:=jS n
 rw [h]at h2
 unfold mU at h2
 rw [aK (by simp [ht]),aY (by simp [ht])]at h2
 simp at h2
 exact⟨h2.1.2,h2.2⟩
theorem O7(hk: ∀k∈kinds,k4 k): ∀(t:Tr),t.wf→ ∀{k},kd kinds t=some k→k4 k
 | .lf n,⟨h1,h2,_,_⟩,k,h=>by
  unfold kd at h
  split at h
  ·rename_i ht
   have:=KI (aaZ h2 ht)
   cases h;unfold k4;omega
  ·injection h with h
   subst h
   cases hc:kinds[n.Col.toNat]? with
   |none=>exact .inl rfl
   |some z=>exact hk z (rO hc)
 | .un n a,_,k,h=>by
  unfold kd at h
  cases ha:kd kinds a with
  |none=>rw [ha]at h;cases h
  |some x=>
   rw [ha,be]at h
   split at h
   ·cases h;exact Xt ..
   ·cases h
 | .bi n a b,_,k,h=>by
  unfold kd at h
  cases ha:kd kinds a with
  |none=>rw [ha]at h;cases h
  |some x=>
   cases hb:kd kinds b with
   |none=>rw [ha,hb]at h;cases h
   |some y=>
    rw [ha,hb]at h
    simp only [be]at h
    split at h
    ·cases h;exact Xt ..
    ·cases h
theorem Nn(stack l:List Int)(h:stack.length+l.length≤100000):pt (stack++l) (l.length:Int)=some (l,stack):=by
 unfold pt cz
 have e:IntKind.i64.wrap (((stack++l).length:Int)-(l.length:Int))=(stack.length:Int):=by
  rw [jg,cv (by omega) (by omega)];omega
 rw [e,mb stack.length (stack++l).length rfl rfl (by simp) (dh _)]
 simp only [be,xQ,Hc (dh _),List.drop_length,kz]
 rw [cq (by simp;omega)]
 simp only [be,kz]
 rw [mb (i:=0) 0 stack.length rfl rfl (lS _) (by simp)]
 simp
theorem KN(stack:List Int){b:Int}(h:b≠0):mn b stack=some (0,b):=by
 unfold mn;rw [aY (by simpa using h)]
theorem nR(h:pk tag=some k):pK tag=some (k:Int):=by
 rw [Ac];unfold IP;rw [h]
theorem Qw(kinds:List Int)(hk: ∀k∈kinds,k4 k)(t:Tr):t.wf→DD kinds.length t→ ∀(s:Nat) (rest:List bp) (stack:List Int),stack.length+t.size≤50000→
  ik (jI kinds) (t.flat s++rest) 0 stack=match kd kinds t with
   |some k=>ik (jI kinds) rest 0 (stack++[k])
   |none=>some (0,201):=by
 induction t with
 |lf n=>
  intro⟨h1,h2,h3,h4⟩ hc s rest stack hl
  simp only [Tr.flat,Tr.size,wl,kz]at hl ⊢
  rw [ik]
  have e1:(ie n (-1) (-1)).Tag=n.Tag:=rfl
  rw [e1,nR h1]
  have h0:=Nn stack [] (by simp;omega)
  simp only [sw,pY]at h0
  simp only [be]
  rw [h0]
  simp only [be]
  have hv:jI kinds (ie n (-1) (-1)) []=(kd kinds (.lf n)).map (fun k=>(k,(0:Int))):=by
   unfold jI mp kd
   simp only [e1]
   rcases ZQ h1 with ht|ht
   ·rw [aY (by simp [ht]),aY ht];rfl
   ·rw [aK (by simp [ht]),aY (by simp [ht]),aK (by simp [ht])]
    have hb:=N9 h2 ht
    have hm:n.Col<kinds.length:=hc ht
    have e2:(ie n (-1) (-1)).Col=n.Col:=rfl
    rw [e2,hJ n.Col.toNat (by omega),oM (by omega)]
    rfl
  rw [hv]
  have: ∃k,kd kinds (.lf n)=some k:=by unfold kd;split<;>exact⟨_,rfl⟩
  obtain⟨k,hk1⟩:=this
  rw [hk1]
  simp only [Option.map_some,be]
  rw [aK (by simp),cq (by simp;omega)]
  rfl
 |un n a ih=>
  intro⟨⟨h1,h2,h3,h4⟩,ha⟩ hc s rest stack hl
  simp only [Tr.flat,Tr.size,jX]at hl ⊢
  rw [O6,ih ha hc s _ stack (by omega)]
  cases hx:kd kinds a with
  |none=>rfl
  |some x=>
   have hx4:=O7 hk a ha hx
   simp only [be,wl,kz]
   rw [ik]
   have e1:(ie n (((s+a.size:Nat):Int)-1) (-1)).Tag=n.Tag:=rfl
   rw [e1,nR h1]
   have h0:=Nn stack [x] (by simp;omega)
   simp only [be]
   have e0:(([x]:List Int).length:Int)=((1:Nat):Int):=rfl
   rw [←e0,h0]
   simp only [be]
   rw [Ot kinds _ x hx4 (by rw [e1];exact h1),e1]
   cases hb:(kn n.Tag x 0).2 with
   |true=>
    simp only [eg,be]
    rw [aK (by simp),cq (by simp;omega)]
    rfl
   |false=>
    simp only [gm,d9,be]
    rw [aY (by decide),KN _ (by decide)]
 |bi n a b iha ihb=>
  intro⟨⟨h1,h2,h3,h4⟩,ha,hb⟩ ⟨hca,hcb⟩ s rest stack hl
  simp only [Tr.flat,Tr.size,jX]at hl ⊢
  rw [Lt,iha ha hca s _ stack (by omega)]
  cases hx:kd kinds a with
  |none=>rfl
  |some x=>
   have hx4:=O7 hk a ha hx
   simp only [be]
   rw [ihb hb hcb (s+a.size) _ (stack++[x]) (by have:=a.size_pos;simp;omega)]
   cases hy:kd kinds b with
   |none=>rfl
   |some y=>
    have hy4:=O7 hk b hb hy
    have hap:=a.size_pos
    simp only [be,wl,kz]
    rw [ik]
    have e1:(ie n (((s+a.size:Nat):Int)-1) (((s+a.size+b.size:Nat):Int)-1)).Tag=n.Tag:=rfl
    rw [e1,nR h1]
    have h0:=Nn stack [x,y] (by simp;omega)
    simp only [be]
    have e0:(([x,y]:List Int).length:Int)=((2:Nat):Int):=rfl
    have e9:stack++[x]++[y]=stack++[x,y]:=by simp
    rw [←e0,e9,h0]
    simp only [be]
    rw [Oq kinds _ x y hx4 hy4 (by rw [e1];exact h1),e1]
    cases hb:(kn n.Tag x y).2 with
    |true=>
     simp only [eg,be]
     rw [aK (by simp),cq (by simp;omega)]
     rfl
    |false=>
     simp only [gm,d9,be]
     rw [aY (by decide),KN _ (by decide)]
theorem RT(kinds:List Int)(hk: ∀k∈kinds,k4 k)(t:Tr):t.wf→DD kinds.length t→ ∀(rest:List bp) (own:List Int),own.length+t.size≤50000→
  (kd kinds t=none∧du kinds (t.flat own.length++rest) own=some (0,201))∨
  (∃k w,kd kinds t=some k∧w.length+1=t.size∧du kinds (t.flat own.length++rest) own=du kinds rest (own++w++[k])):=by
 induction t with
 |lf n=>
  intro⟨h1,h2,h3,h4⟩ hc rest own hl
  simp only [Tr.flat,Tr.size,wl,kz]at hl ⊢
  refine .inr ?_
  have e1:(ie n (-1) (-1)).Tag=n.Tag:=rfl
  unfold kd
  rcases ZQ h1 with ht|ht
  ·refine⟨_,[],aY ht,rfl,?_⟩
   rw [du]
   rw [e1,aY (by simp [ht]),cq (by simp;omega)]
   simp only [be,sw]
   rfl
  ·refine⟨_,[],aK (by simp [ht]),rfl,?_⟩
   have hb:=N9 h2 ht
   have hm:n.Col<kinds.length:=hc ht
   have e2:(ie n (-1) (-1)).Col=n.Col:=rfl
   rw [du]
   rw [e1,aK (by simp [ht]),aY (by simp [ht]),e2,hJ n.Col.toNat (by omega),oM (by omega)]
   simp only [be,sw,G3]
   rw [cq (by simp;omega)]
   rfl
 |un n a ih=>
  intro⟨⟨h1,h2,h3,h4⟩,ha⟩ hc rest own hl
  have hap:=a.size_pos
  simp only [Tr.flat,Tr.size,jX]at hl ⊢
  rcases ih ha hc ([ie n (((own.length+a.size:Nat):Int)-1) (-1)]++rest) own (by omega)with⟨hx,he⟩|⟨x,w,hx,hw,he⟩
  ·exact .inl ⟨by rw [O6,hx];rfl,by rw [he]⟩
  ·rw [he]
   rw [O6,hx]
   simp only [be,wl,kz]
   have e1:(ie n (((own.length+a.size:Nat):Int)-1) (-1)).Tag=n.Tag:=rfl
   have n1:n.Tag≠1:=fun h=>by rw [h]at h1;simp [pk]at h1
   have n2:n.Tag≠2:=fun h=>by rw [h]at h1;simp [pk]at h1
   have hstep:du kinds (ie n (((own.length+a.size:Nat):Int)-1) (-1)::rest) (own++w++[x])=if(kn n.Tag x 0).2 then du kinds rest (own++w++[x]++[(kn n.Tag x 0).1])else some (0,201):=by
    rw [du]
    rw [e1,aK (by simpa using n1),aK (by simpa using n2)]
    have eL:(ie n (((own.length+a.size:Nat):Int)-1) (-1)).L=((own.length+a.size:Nat):Int)-1:=rfl
    have eR:(ie n (((own.length+a.size:Nat):Int)-1) (-1)).R= -1:=rfl
    rw [eL,eR,hJ (own++w).length (by simp;omega),tA (dh _),zy]
    simp only [Gs,be]
    rw [aK (by decide)]
    unfold rC
    rw [e1,z7]
    simp only [be]
    cases hb:(kn n.Tag x 0).2 with
    |true=>
     simp only [mL,gm,d9,eg]
     rw [cq (by simp;omega)];rfl
    |false=>rfl
   rw [hstep]
   cases hb:(kn n.Tag x 0).2 with
   |true=>exact .inr ⟨(kn n.Tag x 0).1,w++[x],by simp,by simp;omega,by simp⟩
   |false=>exact .inl ⟨by simp,by simp⟩
 |bi n a b iha ihb=>
  intro⟨⟨h1,h2,h3,h4⟩,ha,hb⟩ ⟨hca,hcb⟩ rest own hl
  have hap:=a.size_pos
  have hbp:=b.size_pos
  simp only [Tr.flat,Tr.size,jX]at hl ⊢
  obtain⟨m,hm⟩: ∃m,m=ie n (((own.length+a.size:Nat):Int)-1) (((own.length+a.size+b.size:Nat):Int)-1):=⟨_,rfl⟩
  rw [←hm]
  rcases iha ha hca (b.flat (own.length+a.size)++([m]++rest)) own (by omega)with⟨hx,he⟩|⟨x,w,hx,hw,he⟩
  ·exact .inl ⟨by rw [Lt,hx];rfl,by rw [he]⟩
  ·rw [he]
   have hl2:(own++w++[x]).length=own.length+a.size:=by simp;omega
   rw [←hl2]
   rcases ihb hb hcb ([m]++rest) (own++w++[x]) (by rw [hl2];omega)with⟨hy,he2⟩|⟨y,w2,hy,hw2,he2⟩
   ·exact .inl ⟨by rw [Lt,hx,hy];rfl,by rw [he2]⟩
   ·rw [he2]
    rw [Lt,hx,hy]
    simp only [be,wl,kz]
    have e1:m.Tag=n.Tag:=by rw [hm];rfl
    have eL:m.L=((own.length+a.size:Nat):Int)-1:=by rw [hm];rfl
    have eR:m.R=((own.length+a.size+b.size:Nat):Int)-1:=by rw [hm];rfl
    have n1:n.Tag≠1:=fun h=>by rw [h]at h1;simp [pk]at h1
    have n2:n.Tag≠2:=fun h=>by rw [h]at h1;simp [pk]at h1
    have hstep:du kinds (m::rest) (own++w++[x]++w2++[y])=if(kn n.Tag x y).2 then du kinds rest (own++w++[x]++w2++[y]++[(kn n.Tag x y).1])else some (0,201):=by
     rw [du]
     rw [e1,aK (by simpa using n1),aK (by simpa using n2)]
     rw [eL,eR,hJ (own++w).length (by simp;omega)]
     have g1:(own++w++[x]++w2++[y])[(own++w).length]? =some x:=by
      rw [jX,jX,tA (dh _),zy];rfl
     rw [g1]
     simp only [be]
     rw [aY (by rw [kM];omega),hJ (own++w++[x]++w2).length (by simp;omega)]
     have g2:(own++w++[x]++w2++[y])[(own++w++[x]++w2).length]? =some y:=by
      rw [tA (dh _),zy];rfl
     rw [g2]
     simp only [be]
     unfold rC
     rw [e1,z7]
     simp only [be]
     cases hb:(kn n.Tag x y).2 with
     |true=>
      simp only [mL,gm,d9,eg]
      rw [cq (by simp;omega)];rfl
     |false=>rfl
    rw [hstep]
    cases hb:(kn n.Tag x y).2 with
    |true=>exact .inr ⟨(kn n.Tag x y).1,w++[x]++w2++[y],by simp,by simp;omega,by simp⟩
    |false=>exact .inl ⟨by simp,by simp⟩
def rp(m:Nat)(ns:List bp):Bool:=ns.all fun n=> !((n.Tag==2)&&decide ((m:Int)≤n.Col))
theorem LU(m:Nat)(n:bp)(ns:List bp):rp m (n::ns)=(!((n.Tag==2)&&decide ((m:Int)≤n.Col))&&rp m ns):=rfl
theorem yL(m:Nat)(t:Tr):t.wf→ ∀s,rp m (t.flat s)=true→DD m t:=by
 induction t with
 |lf n=>
  intro _ s h ht
  simp only [rp,Tr.flat,xE,List.all_nil,xM]at h
  have e1:(ie n (-1) (-1)).Tag=n.Tag:=rfl
  have e2:(ie n (-1) (-1)).Col=n.Col:=rfl
  simp [e1,e2,ht]at h
  exact h
 |un n a ih=>
  intro⟨_,ha⟩ s h
  simp only [rp,Tr.flat,G1,my]at h
  exact ih ha s h.1
 |bi n a b iha ihb=>
  intro⟨_,ha,hb⟩ s h
  simp only [rp,Tr.flat,G1,my]at h
  exact⟨iha ha s h.1.1,ihb hb _ h.1.2⟩
def zG(kinds:List Int):Bool:=kinds.all fun k=>decide (0≤k)&&decide (k≤3)
theorem BD(k:Int)(ks:List Int):zG (k::ks)=((decide (0≤k)&&decide (k≤3))&&zG ks):=rfl
theorem ze(h:zG kinds=true){k:Int}(hk:k∈kinds):k4 k:=by
 have:=jW.1 h k hk
 simp at this
 unfold k4;omega
def fR(e:bJ)(kinds:List Int):Int×Int:=
 if kh e.Nodes then if zG kinds then if rp kinds.length e.Nodes then match (mM e.Nodes).bind (kd kinds)with
  |some k=>(k,0)
  |none=>(0,201)else(0,2)else(0,2)else(0,200)
theorem Gh(e:bJ)(kinds:List Int): ∀cs:List Int,nc e kinds cs=if cs.all (fun c=>decide (c<(kinds.length:Int)))then ph e (jI kinds)else some (0,2)
 |[]=>by
  unfold nc
  cases ph e (jI kinds)<;>rfl
 |c::cs=>by
  unfold nc
  rw [Gh e kinds cs]
  by_cases h:(kinds.length:Int)≤c
  ·rw [aY (by simpa using h),aK (by simp;omega)]
  ·rw [aK (by simpa using h)]
   have:c<(kinds.length:Int):=by omega
   simp [this]
theorem wR(e:bJ)(kinds:List Int)(hl:e.Nodes.length≤50000):tp e kinds=some (fR e kinds):=by
 unfold tp fR
 rw [vk e (by omega)]
 cases hr:kh e.Nodes with
 |false=>rfl
 |true=>
  simp only [eg,be]
  rw [aK (by decide)]
  have key: ∀ks:List Int,qy e kinds ks=if zG ks then(tt e).bind (nc e kinds)else some (0,2):=by
   intro ks
   induction ks with
   |nil=>rfl
   |cons k ks ih=>
    unfold qy
    rw [ih]
    by_cases h:k<0∨3<k
    ·rw [aY (by simpa using h),aK (by simp [zG];omega)]
    ·rw [aK (by simpa using h)]
     have h1:(decide (0≤k)&&decide (k≤3))=true:=by simp;omega
     rw [BD,h1,u9]
  rw [key]
  cases hk:zG kinds with
  |false=>rfl
  |true=>
   simp only [eg]
   obtain⟨cs,h1,h2⟩:=BN e hr
   rw [h1,be,Gh]
   have hci:cs.all (fun c=>decide (c<(kinds.length:Int)))=rp kinds.length e.Nodes:=by
    rw [AZ]
    simp only [jW,kM,rp,DM,Bool.and_eq_false_iff,beq_eq_false_iff_ne,DO]
    constructor
    ·intro h n hn
     by_cases ht:n.Tag=2
     ·exact .inr (by have:=h _ ((h2 n.Col).2 ⟨n,hn,ht,rfl⟩);omega)
     ·exact .inl ht
    ·intro h c hc
     obtain⟨n,hn,ht,rfl⟩:=(h2 c).1 hc
     rcases h n hn with h|h
     ·exact absurd ht h
     ·omega
   rw [hci]
   cases hc:rp kinds.length e.Nodes with
   |false=>rfl
   |true=>
    simp only [eg]
    cases ht:mM e.Nodes with
    |none=>unfold kh at hr;rw [ht]at hr;cases hr
    |some t=>
     obtain⟨hw,hN,hs⟩:=kp ht
     have hct:=yL kinds.length t hw 0 (by rw [←hN];exact hc)
     have:=Qw kinds (fun k=>ze hk) t hw hct 0 [] [] (by simp;omega)
     rw [sw,←hN]at this
     unfold ph
     rw [this]
     simp only [be]
     cases kd kinds t with
     |none=>rfl
     |some k=>rfl
theorem lJ(e:bJ)(kinds:List Int):tS e kinds=some (fR e kinds):=by
 unfold tS fR
 rw [yg e]
 cases hr:kh e.Nodes with
 |false=>rfl
 |true=>
  simp only [eg,be,mL,gm,d9]
  have key2: ∀ns:List bp,pb e kinds ns=if rp kinds.length ns then du kinds e.Nodes []else some (0,2):=by
   intro ns
   induction ns with
   |nil=>rfl
   |cons n ns ih=>
    unfold pb
    rw [ih,LU]
    cases ((n.Tag==2)&&decide ((kinds.length:Int)≤n.Col))<;>simp
  have key: ∀ks:List Int,rA e kinds ks=if zG ks then pb e kinds e.Nodes else some (0,2):=by
   intro ks
   induction ks with
   |nil=>rfl
   |cons k ks ih=>
    unfold rA
    rw [ih]
    by_cases h:k<0∨3<k
    ·rw [aY (by simpa using h),aK (by simp [zG];omega)]
    ·rw [aK (by simpa using h)]
     have h1:(decide (0≤k)&&decide (k≤3))=true:=by simp;omega
     rw [BD,h1,u9]
  rw [key,key2]
  cases hk:zG kinds with
  |false=>rfl
  |true=>
   cases hc:rp kinds.length e.Nodes with
   |false=>rfl
   |true=>
    simp only [eg]
    cases ht:mM e.Nodes with
    |none=>unfold kh at hr;rw [ht]at hr;cases hr
    |some t=>
     obtain⟨hw,hN,hs⟩:=kp ht
     have hct:=yL kinds.length t hw 0 (by rw [←hN];exact hc)
     have:=RT kinds (fun k=>ze hk) t hw hct [] [] (by simp;omega)
     rw [sw,pY,←hN]at this
     simp only [be]
     rcases this with⟨h1,h2⟩|⟨k,w,h1,h2,h3⟩
     ·rw [h1,h2]
     ·rw [h1,h3]
      unfold du
      have hls:t.size≤1000:=hs
      rw [kz,hJ w.length (by rw [cv (by simp<;>omega) (by simp<;>omega)];simp),tA (dh _),zy]
      rfl
def ZJ(n:bp):Bool:=n.Tag==4||decide (12≤n.Tag)&&decide (n.Tag≤15)

def zV:ac:=⟨0,0,0,[]⟩
def bV(b:Bool):ac:=⟨1,if b then 1 else 0,0,[]⟩
def iV(n:Int):ac:=⟨2,n,0,[]⟩
def sV(s:xC):ac:=⟨3,0,0,s⟩
def r64(n:Int):Prop:= -9223372036854775808≤n∧n≤9223372036854775807
inductive Pl:ac→Prop
 |z:Pl zV
 |b (b:Bool):Pl (bV b)
 |i (n:Int) (h:r64 n):Pl (iV n)
 |s (s:xC) (h:s.length≤40):Pl (sV s)
theorem Pl.plain(h:Pl v):mX v=true:=by
 cases h with
 |z=>rfl
 |b b=>cases b<;>rfl
 |i n h=>simp [mX,fT,dL,iV]
 |s s h=>
  have h' :(s.length:Int)≤40:=by omega
  simp [mX,fT,dL,sV,h']
theorem Pl.right(h:Pl v):fT v=true:=by
 have:=h.plain
 unfold mX at this
 rw [my]at this
 exact this.1
theorem Fh(h:mX v=true)(hr:r64 v.N):Pl v:=by
 obtain⟨k,n,u,s⟩:=v
 unfold mX fT dL at h
 simp only [my,qR,o8]at h
 obtain⟨h1,h2⟩:=h
 by_cases k0:k=0
 ·subst k0
  simp at h1
  rw [show(⟨0,n,u,s⟩:ac)=zV from by simp only [zV];simp [h1]]
  exact .z
 by_cases k1:k=1
 ·subst k1
  simp at h1
  obtain⟨⟨rfl,rfl⟩,h1⟩:=h1
  rcases h1 with rfl|rfl
  ·exact .b false
  ·exact .b true
 by_cases k2:k=2
 ·subst k2
  simp at h1
  obtain⟨rfl,rfl⟩:=h1
  exact .i n hr
 by_cases k3:k=3
 ·subst k3
  simp at h1
  obtain⟨⟨rfl,rfl⟩,h1⟩:=h1
  exact .s s (by omega)
 simp [k0,k1,k2,k3,h2]at h1
theorem Pl.r64(h:Pl v):r64 v.N:=by
 cases h with
 |z=>exact⟨by decide,by decide⟩
 |b b=>cases b<;>exact⟨by decide,by decide⟩
 |i n h=>exact h
 |s s h=>exact⟨by simp [sV],by simp [sV]⟩
theorem Pl.check(h:Pl v):lr v=some 0:=by rw [ol,h.right];rfl
theorem Pl.plain_eq(h:Pl v):mC v=some true:=by rw [tF,h.plain]
theorem RS{b:ac}(ha:Pl a)(hb:Pl b):pO [a,b]=some 0:=by
 unfold pO jz jz jz
 simp [ha.check,hb.check]
theorem Ma{b:ac}(ha:Pl a)(hb:Pl b)(to:Int→Int→Option (Int×Bool)):sk a b to=
  if(a.Kind=0∨a.Kind=2)∧(b.Kind=0∨b.Kind=2)then(if a.Kind=0∨b.Kind=0 then some (zV,0)else(to a.N b.N).bind fun r=>if r.2 then some (iV r.1,0)else some (zV,140))else some (zV,2):=by
 unfold sk pW km km km
 simp only [ha.check,hb.check,be]
 cases ha<;>cases hb<;>simp [zV,bV,iV,sV,px,oO]
 congr 1
 funext r
 cases r.2<;>rfl
inductive Tu:ac→Prop
 |z:Tu zV
 |b (b:Bool):Tu (bV b)
theorem Tu.pl(h:Tu v):Pl v:=by cases h;exact .z;exact .b _
theorem jh(h:Pl v):Tu v↔v.Kind≤1:=by
 constructor
 ·intro h;cases h<;>simp [zV,bV]
 ·intro hk
  cases h with
  |z=>exact .z
  |b b=>exact .b b
  |i n h=>simp [iV]at hk
  |s s h=>simp [sV]at hk
def tn(v:ac):Int:=if v.Kind=0 then 1 else 2*v.N
def tv(n:Int):ac:=if n=0 then bV false else if n=1 then zV else bV true
theorem RD(h:Tu v):tn v=0∨tn v=1∨tn v=2:=by
 cases h with
 |z=>exact .inr (.inl rfl)
 |b b=>cases b;exact .inl rfl;exact .inr (.inr rfl)
theorem EH(h:Tu v):xV v=some (tn v):=by
 cases h with
 |z=>rfl
 |b b=>cases b<;>rfl
theorem Rz{n:Int}(h:n=0∨n=1∨n=2):Tu (tv n):=by
 rcases h with rfl|rfl|rfl
 ·exact .b false
 ·exact .z
 ·exact .b true
theorem Ny(h:Pl v)(hn: ¬Tu v):decide (1<v.Kind)=true:=by
 rw [jh h]at hn;simp;omega
theorem aay(h:Tu v):decide (1<v.Kind)=false:=by
 have:=(jh h.pl).1 h;simp;omega
def F8(a b:ac):ac:=tv (min (tn a) (tn b))
def T8(a b:ac):ac:=tv (max (tn a) (tn b))
def GN(a:ac):ac:=tv (2-tn a)
theorem Il{b:ac}(ha:Tu a)(hb:Tu b):s9 a b=some (F8 a b,0):=by
 cases ha with
 |z=>cases hb with
  |z=>rfl
  |b b=>cases b<;>rfl
 |b x=>cases hb with
  |z=>cases x<;>rfl
  |b b=>cases x<;>cases b<;>rfl
theorem Kh{b:ac}(ha:Tu a)(hb:Tu b):vz a b=some (T8 a b,0):=by
 cases ha with
 |z=>cases hb with
  |z=>rfl
  |b b=>cases b<;>rfl
 |b x=>cases hb with
  |z=>cases x<;>rfl
  |b b=>cases x<;>cases b<;>rfl
theorem Bc(ha:Tu a):qU a=some (GN a,0):=by
 cases ha with
 |z=>rfl
 |b x=>cases x<;>rfl
theorem FD{b:ac}(ha:Pl a)(hb:Pl b)(h: ¬(Tu a∧Tu b))(to:List Int→Option Int):oh to [a,b]=some (zV,2):=by
 unfold oh
 rw [RS ha hb]
 simp only [be]
 rw [aK (by decide)]
 unfold lZ
 by_cases h1:Tu a
 ·have h2: ¬Tu b:=fun k=>h ⟨h1,k⟩
  rw [aay h1]
  simp only [gm,d9,EH h1,be]
  rw [cq (by simp)]
  simp only [be]
  unfold lZ
  rw [Ny hb h2,aY rfl];rfl
 ·rw [Ny ha h1,aY rfl];rfl
theorem Gw(ha:Pl a)(h: ¬Tu a):qU a=some (zV,2):=by
 unfold qU oh pO jz jz
 rw [ha.check]
 simp only [be]
 rw [aK (by decide)]
 unfold lZ
 simp only [be]
 rw [aK (by decide),Ny ha h,aY rfl];rfl
def F3(a b:ac):Int:=(lF a b).getD 0
theorem Ci{b:ac}(ha:Pl a)(hb:Pl b):lF a b=some (F3 a b):=by
 unfold F3
 have: ∃c,lF a b=some c:=by
  unfold lF
  rw [ha.plain_eq,hb.plain_eq]
  simp only [be,mL,Ak,eg,d9]
  unfold gX nT gQ li pp jn
  simp only [zP,be,gm,d9]
  have h1: ∀x y:Int,∃c,(if decide (x<y)=true then some (-1:Int)else if decide (y<x)=true then some 1 else some 0)=some c:=by
   intro x y;repeat' split
   all_goals exact⟨_,rfl⟩
  obtain⟨c1,e1⟩:=h1 a.Kind b.Kind
  obtain⟨c2,e2⟩:=h1 a.N b.N
  rw [e1,e2]
  simp only [be]
  unfold nf gj gj gj gj
  repeat' split
  all_goals exact⟨_,rfl⟩
 obtain⟨c,h⟩:=this
 rw [h];rfl
theorem U7{b:ac}(ha:Pl a)(hb:Pl b){is:Int→Option Bool}{f:Int→Bool}(hf: ∀c,is c=some (f c)):qT a b is=
  some (if a.Kind=0∨b.Kind=0 then(zV,0)else if a.Kind=b.Kind then(bV (f (F3 a b)),0)else(zV,2)):=by
 unfold qT
 rw [RS ha hb]
 simp only [be,Ci ha hb,hf,px]
 have hbv: ∀x,py x=some (bV x):=fun x=>by cases x<;>rfl
 simp only [hbv,be]
 cases ha<;>cases hb<;>simp [zV,bV,iV,sV]

def BS:List (Int×(ac→ac→Option (ac×Int))):=(zi).getD []
theorem Ju:zi=some BS:=rfl
def WD(tag:Int):ac→ac→Option (ac×Int):=(pH BS tag).getD (fun _ _=>none)
theorem dz4:WD 4=na zn:=rfl
theorem dz5:WD 5=na qU:=rfl
theorem dz6:WD 6=oF true:=rfl
theorem dz7:WD 7=oF false:=rfl
theorem ac7:WD 20=lN oj:=rfl
theorem ac6:WD 22=s9:=rfl
theorem ac5:WD 23=vz:=rfl
def Og(tag x y:Int):Int×Bool:=(if tag=12 then sl x y else if tag=13 then pX x y else if tag=14 then mI x y else mJ x y).getD (0,false)
theorem pe(n:Int):r64 (IntKind.i64.wrap n):=by rw [wk];unfold r64;omega
theorem Hd{n:Int}(h:0≤n)(h2:n<18446744073709551616):IntKind.u64.wrap n=n:=by rw [uC];omega
theorem uH(n:Int)(h:r64 n):pL n=some (n.natAbs:Int):=by
 unfold r64 at h
 unfold pL
 by_cases hn:n<0
 ·rw [aY (by simpa using hn),uC,uC]
  congr 1;omega
 ·rw [aK (by simpa using hn),uC]
  congr 1;omega
theorem XZ(tag x y:Int)(hx:r64 x)(hy:r64 y):(if tag=12 then sl x y else if tag=13 then pX x y else if tag=14 then mI x y else mJ x y)=some (Og tag x y)∧r64 (Og tag x y).1:=by
 unfold Og
 split
 ·exact⟨rfl,pe _⟩
 ·split
  ·exact⟨rfl,pe _⟩
  ·split
   ·unfold mI nq nj
    simp only [uH x hx,uH y hy,be]
    split
    ·exact⟨rfl,pe _⟩
    ·exact⟨rfl,pe _⟩
   ·unfold mJ
    by_cases h0:y=0
    ·subst h0;exact⟨rfl,show r64 0 from⟨by decide,by decide⟩⟩
    ·rw [aK (by simpa using h0)]
     simp only [uH x hx,uH y hy,be]
     have hn:nz ((y.natAbs:Nat):Int)=some ():=by
      unfold nz
      rw [aK (by omega)]
     rw [hn]
     unfold nj
     simp only [be]
     split
     ·exact⟨rfl,pe _⟩
     ·exact⟨rfl,pe _⟩
def xz(tag:Int)(a b:ac):ac×Int:=
 if(a.Kind=0∨a.Kind=2)∧(b.Kind=0∨b.Kind=2)then(if a.Kind=0∨b.Kind=0 then(zV,0)else if(Og tag a.N b.N).2 then(iV (Og tag a.N b.N).1,0)else(zV,140))else(zV,2)
def eJ(f:Int→Bool)(a b:ac):ac×Int:=if a.Kind=0∨b.Kind=0 then(zV,0)else if a.Kind=b.Kind then(bV (f (F3 a b)),0)else(zV,2)
def Fu(q:ac×Int):ac×Int:=if q.2=0 then(GN q.1,0)else q
def Cu(tag:Int)(a b:ac):ac×Int:=
 if tag=4 then xz 13 (iV 0) a else
 if tag=5 then(if a.Kind≤1 then(GN a,0)else(zV,2))else
 if tag=6 then(bV (a.Kind==0),0)else
 if tag=7 then(bV (a.Kind !=0),0)else
 if tag≤15 then xz tag a b else
 if tag=16 then eJ (fun c=>c==0) a b else
 if tag=17 then Fu (eJ (fun c=>c==0) a b)else
 if tag=18 then eJ (fun c=>decide (c<0)) a b else
 if tag=19 then Fu (eJ (fun c=>decide (c<0)) b a)else
 if tag=20 then eJ (fun c=>decide (c<0)) b a else
 if tag=21 then Fu (eJ (fun c=>decide (c<0)) a b)else
 if tag=22 then(if a.Kind≤1∧b.Kind≤1 then(F8 a b,0)else(zV,2))else
 (if a.Kind≤1∧b.Kind≤1 then(T8 a b,0)else(zV,2))
theorem sf(f:Int→Bool)(a b:ac):(eJ f a b).2=0→Tu (eJ f a b).1:=by
 unfold eJ
 split
 ·intro _;exact .z
 ·split
  ·intro _;exact .b _
  ·intro h;cases h
theorem CC(f:Int→Bool)(a b:ac):(eJ f a b).2≠0→eJ f a b=(zV,2):=by
 unfold eJ
 split
 ·intro h;exact absurd rfl h
 ·split
  ·intro h;exact absurd rfl h
  ·intro _;rfl
theorem Fs{do1:ac→ac→Option (ac×Int)}{b:ac}{f:Int→Bool}{x y:ac}(h:do1 a b=some (eJ f x y)):ui do1 a b=some (Fu (eJ f x y)):=by
 unfold ui Fu
 rw [h]
 simp only [be]
 by_cases h0:(eJ f x y).2=0
 ·rw [aK (by simp [h0]),aY h0,Bc (sf f x y h0)];rfl
 ·rw [aY (by simpa using h0),aK h0]
theorem F5{b:ac}(ha:Pl a)(hb:Pl b){to:Int→Int→Option (Int×Bool)}(h: ∀x y,to x y=if tag=12 then sl x y else if tag=13 then pX x y else if tag=14 then mI x y else mJ x y):
  (sk a b to).bind (fun r=>some (r.1,r.2))=some (xz tag a b):=by
 rw [Ma ha hb]
 unfold xz
 split
 ·split
  ·rfl
  ·rw [h,(XZ tag a.N b.N ha.r64 hb.r64).1]
   simp only [be]
   split<;>rfl
 ·rfl
theorem HD{b:ac}(ha:Pl a)(hb:Pl b){is:Int→Option Bool}{f:Int→Bool}(hf: ∀c,is c=some (f c)):(qT a b is).bind (fun r=>some (r.1,r.2))=some (eJ f a b):=by
 rw [U7 ha hb hf];rfl
theorem xX{b:ac}(ha:Pl a)(hb:Pl b):rP a b=some (eJ (fun c=>c==0) a b):=HD ha hb fun _=>rfl
theorem rz{b:ac}(ha:Pl a)(hb:Pl b):oj a b=some (eJ (fun c=>decide (c<0)) a b):=HD ha hb fun _=>rfl
theorem RX(h:pk tag=some k)(hk:k≠0):tag=4∨tag=5∨tag=6∨tag=7∨tag=12∨tag=13∨tag=14∨tag=15∨tag=16∨tag=17∨tag=18∨tag=19∨tag=20∨tag=21∨tag=22∨tag=23:=by
 unfold pk at h
 repeat' split at h
 all_goals simp at h
 ·exact absurd h.symm hk
 all_goals omega
theorem Zw(h:pk tag=some k)(hk:k≠0){b:ac}(ha:Pl a)(hb:Pl b):WD tag a b=some (Cu tag a b):=by
 have hbv: ∀x,py x=some (bV x):=fun x=>by cases x<;>rfl
 rcases RX h hk with rfl|rfl|rfl|rfl|rfl|rfl|rfl|rfl|rfl|rfl|rfl|rfl|rfl|rfl|rfl|rfl
 ·rw [dz4];unfold na zn oO
  simp only [be]
  have:=F5 (tag:=13) (Pl.i 0 ⟨by decide,by decide⟩) ha (to:=pX) (fun _ _=>rfl)
  have h2:v7 (iV 0) a=some (xz 13 (iV 0) a):=this
  rw [show(⟨2,0,0,[]⟩:ac)=iV 0 from rfl,h2];rfl
 ·rw [dz5];unfold na Cu
  rw [aK (by decide),aY rfl]
  by_cases ht:Tu a
  ·rw [Bc ht,aY ((jh ha).1 ht)];rfl
  ·rw [Gw ha ht,aK (fun h=>ht ((jh ha).2 h))];rfl
 ·rw [dz6];unfold oF
  rw [hbv]
  simp only [be]
  unfold Cu
  rw [aK (by decide),aK (by decide),aY rfl]
  cases hx:(a.Kind==0)<;>rfl
 ·rw [dz7];unfold oF
  rw [hbv]
  simp only [be]
  unfold Cu
  rw [aK (by decide),aK (by decide),aK (by decide),aY rfl]
  simp only [bne]
  cases hx:(a.Kind==0)<;>rfl
 ·exact F5 (tag:=12) ha hb fun _ _=>rfl
 ·exact F5 (tag:=13) ha hb fun _ _=>rfl
 ·exact F5 (tag:=14) ha hb fun _ _=>rfl
 ·exact F5 (tag:=15) ha hb fun _ _=>rfl
 ·exact xX ha hb
 ·exact Fs (xX ha hb)
 ·exact rz ha hb
 ·exact Fs (do1:=lN oj) (by unfold lN;rw [rz hb ha];rfl)
 ·rw [ac7];unfold lN;rw [rz hb ha];rfl
 ·exact Fs (rz ha hb)
 ·rw [ac6]
  show _=some (if a.Kind≤1∧b.Kind≤1 then(F8 a b,0)else(zV,2))
  by_cases ht:Tu a∧Tu b
  ·rw [Il ht.1 ht.2,aY ⟨(jh ha).1 ht.1,(jh hb).1 ht.2⟩]
  ·rw [aK (fun h=>ht ⟨(jh ha).2 h.1,(jh hb).2 h.2⟩)]
   unfold s9
   rw [FD ha hb ht];rfl
 ·rw [ac5]
  show _=some (if a.Kind≤1∧b.Kind≤1 then(T8 a b,0)else(zV,2))
  by_cases ht:Tu a∧Tu b
  ·rw [Kh ht.1 ht.2,aY ⟨(jh ha).1 ht.1,(jh hb).1 ht.2⟩]
  ·rw [aK (fun h=>ht ⟨(jh ha).2 h.1,(jh hb).2 h.2⟩)]
   unfold vz
   rw [FD ha hb ht];rfl
theorem ZI{b:ac}(ha:Pl a)(hb:Pl b):(xz tag a b).2=0→Pl (xz tag a b).1:=by
 unfold xz
 split
 ·split
  ·intro _;exact .z
  ·split
   ·intro _;exact .i _ (XZ tag a.N b.N ha.r64 hb.r64).2
   ·intro h;cases h
 ·intro h;cases h
theorem WS(tag:Int)(a b:ac):(xz tag a b).2≠0→xz tag a b=(zV,140)∨xz tag a b=(zV,2):=by
 unfold xz
 split
 ·split
  ·intro h;exact absurd rfl h
  ·split
   ·intro h;exact absurd rfl h
   ·intro _;exact .inl rfl
 ·intro _;exact .inr rfl
theorem Ed(h:Tu a):Tu (GN a):=by
 unfold GN
 apply Rz
 have:=RD h;omega
theorem PP{b:ac}(h:Tu a)(k:Tu b):Tu (F8 a b):=by
 apply Rz
 have:=RD h;have:=RD k;omega
theorem R1{b:ac}(h:Tu a)(k:Tu b):Tu (T8 a b):=by
 apply Rz
 have:=RD h;have:=RD k;omega
theorem YF(f:Int→Bool)(a b:ac):(Fu (eJ f a b)).2=0→Tu (Fu (eJ f a b)).1:=by
 unfold Fu
 split
 ·rename_i h;intro _;exact Ed (sf f a b h)
 ·rename_i h;intro k;exact absurd k h
theorem UP(f:Int→Bool)(a b:ac):(Fu (eJ f a b)).2≠0→Fu (eJ f a b)=(zV,2):=by
 unfold Fu
 split
 ·intro h;exact absurd rfl h
 ·rename_i h;intro _;exact CC f a b h
theorem Ct(h:pk tag=some k)(hk:k≠0){b:ac}(ha:Pl a)(hb:Pl b):
  ((Cu tag a b).2=0∧Pl (Cu tag a b).1)∨Cu tag a b=(zV,2)∨(Cu tag a b=(zV,140)∧(tag=4∨(12≤tag∧tag≤15))):=by
 have har: ∀t x y,Pl x→Pl y→((xz t x y).2=0∧Pl (xz t x y).1)∨xz t x y=(zV,2)∨xz t x y=(zV,140):=by
  intro t x y hx hy
  by_cases h0:(xz t x y).2=0
  ·exact .inl ⟨h0,ZI hx hy h0⟩
  ·rcases WS t x y h0 with h|h
   ·exact .inr (.inr h)
   ·exact .inr (.inl h)
 have hh: ∀f x y,((eJ f x y).2=0∧Pl (eJ f x y).1)∨eJ f x y=(zV,2):=by
  intro f x y
  by_cases h0:(eJ f x y).2=0
  ·exact .inl ⟨h0,(sf f x y h0).pl⟩
  ·exact .inr (CC f x y h0)
 have hn: ∀f x y,((Fu (eJ f x y)).2=0∧Pl (Fu (eJ f x y)).1)∨Fu (eJ f x y)=(zV,2):=by
  intro f x y
  by_cases h0:(Fu (eJ f x y)).2=0
  ·exact .inl ⟨h0,(YF f x y h0).pl⟩
  ·exact .inr (UP f x y h0)
 rcases RX h hk with rfl|rfl|rfl|rfl|rfl|rfl|rfl|rfl|rfl|rfl|rfl|rfl|rfl|rfl|rfl|rfl
 ·rcases har 13 (iV 0) a (.i 0 ⟨by decide,by decide⟩) ha with h|h|h
  ·exact .inl h
  ·exact .inr (.inl h)
  ·exact .inr (.inr ⟨h,.inl rfl⟩)
 ·show _∨_∨_
  unfold Cu
  rw [aK (by decide),aY rfl]
  split
  ·rename_i hk;exact .inl ⟨rfl,(Ed ((jh ha).2 hk)).pl⟩
  ·exact .inr (.inl rfl)
 ·exact .inl ⟨rfl,.b _⟩
 ·exact .inl ⟨rfl,.b _⟩
 ·rcases har 12 a b ha hb with h|h|h
  ·exact .inl h
  ·exact .inr (.inl h)
  ·exact .inr (.inr ⟨h,by decide⟩)
 ·rcases har 13 a b ha hb with h|h|h
  ·exact .inl h
  ·exact .inr (.inl h)
  ·exact .inr (.inr ⟨h,by decide⟩)
 ·rcases har 14 a b ha hb with h|h|h
  ·exact .inl h
  ·exact .inr (.inl h)
  ·exact .inr (.inr ⟨h,by decide⟩)
 ·rcases har 15 a b ha hb with h|h|h
  ·exact .inl h
  ·exact .inr (.inl h)
  ·exact .inr (.inr ⟨h,by decide⟩)
 ·exact(hh (fun c=>c==0) a b).imp_right .inl
 ·exact(hn (fun c=>c==0) a b).imp_right .inl
 ·exact(hh (fun c=>decide (c<0)) a b).imp_right .inl
 ·exact(hn (fun c=>decide (c<0)) b a).imp_right .inl
 ·exact(hh (fun c=>decide (c<0)) b a).imp_right .inl
 ·exact(hn (fun c=>decide (c<0)) a b).imp_right .inl
 ·show _∨_∨_
  rw [show Cu 22 a b=if a.Kind≤1∧b.Kind≤1 then(F8 a b,0)else(zV,2)from rfl]
  split
  ·rename_i h;exact .inl ⟨rfl,(PP ((jh ha).2 h.1) ((jh hb).2 h.2)).pl⟩
  ·exact .inr (.inl rfl)
 ·show _∨_∨_
  rw [show Cu 23 a b=if a.Kind≤1∧b.Kind≤1 then(T8 a b,0)else(zV,2)from rfl]
  split
  ·rename_i h;exact .inl ⟨rfl,(R1 ((jh ha).2 h.1) ((jh hb).2 h.2)).pl⟩
  ·exact .inr (.inl rfl)

def dz(tag:Int)(a b:ac):ac×Int:=if(Cu tag a b).2=0 then Cu tag a b else(zV,if(Cu tag a b).2=140 then 140 else 201)
def DG(q:ac×Int)(f:ac→ac×Int):ac×Int:=if q.2=0 then f q.1 else q
def ev(r:List ac):Tr→ac×Int
 | .lf n=>if n.Tag=1 then(n.Value,0)else((r[n.Col.toNat]?).getD zV,0)
 | .un n a=>DG (ev r a) fun x=>dz n.Tag x x
 | .bi n a b=>DG (ev r a) fun x=>DG (ev r b) fun y=>dz n.Tag x y
def T7:Tr→Prop
 | .lf n=>r64 n.Value.N
 | .un _ a=>T7 a
 | .bi _ a b=>T7 a∧T7 b
def yK(r:List ac):Tr→Prop
 | .lf n=>n.Tag=2→n.Col.toNat<r.length∧ ∃v,r[n.Col.toNat]? =some v∧Pl v
 | .un _ a=>yK r a
 | .bi _ a b=>yK r a∧yK r b
theorem vV(h:pk tag=some k)(hk:k≠0){b:ac}(ha:Pl a)(hb:Pl b):
  ((dz tag a b).2=0∧Pl (dz tag a b).1∧dz tag a b=Cu tag a b)∨(dz tag a b=(zV,201)∧Cu tag a b=(zV,2))∨(dz tag a b=(zV,140)∧Cu tag a b=(zV,140)∧(tag=4∨(12≤tag∧tag≤15))):=by
 unfold dz
 rcases Ct h hk ha hb with⟨h1,h2⟩|h1|⟨h1,h2⟩
 ·rw [aY h1];exact .inl ⟨h1,h2,rfl⟩
 ·rw [h1];exact .inr (.inl ⟨rfl,rfl⟩)
 ·rw [h1];exact .inr (.inr ⟨rfl,rfl,h2⟩)
theorem PA(r:List ac)(n:bp)(a:Tr):ev r (.un n a)=DG (ev r a) fun x=>dz n.Tag x x:=rfl
theorem PB(r:List ac)(n:bp)(a b:Tr):ev r (.bi n a b)=DG (ev r a) fun x=>DG (ev r b) fun y=>dz n.Tag x y:=rfl
theorem nD{q:ac×Int}{f:ac→ac×Int}(h:q.2=0):DG q f=f q.1:=aY h
theorem jq{q:ac×Int}{f:ac→ac×Int}(h:q.2≠0):DG q f=q:=aK h
theorem ny(r:List ac)(t:Tr):t.wf→T7 t→yK r t→((ev r t).2=0∧Pl (ev r t).1)∨ev r t=(zV,201)∨ev r t=(zV,140):=by
 induction t with
 |lf n=>
  intro⟨h1,h2,_,_⟩ hr hc
  unfold ev
  split
  ·rename_i ht;exact .inl ⟨rfl,Fh (aaZ h2 ht) hr⟩
  ·rename_i ht
   have ht2:n.Tag=2:=(ZQ h1).resolve_left ht
   obtain⟨_,v,hv,hp⟩:=hc ht2
   rw [hv];exact .inl ⟨rfl,hp⟩
 |un n a ih=>
  intro⟨⟨h1,_,_,_⟩,ha⟩ hr hc
  rw [PA]
  rcases ih ha hr hc with⟨h2,h3⟩|h2|h2
  ·rw [nD h2]
   rcases vV h1 (by decide) h3 h3 with⟨h4,h5,_⟩|⟨h4,_⟩|⟨h4,_⟩
   ·exact .inl ⟨h4,h5⟩
   ·exact .inr (.inl h4)
   ·exact .inr (.inr h4)
  ·rw [h2,jq (by decide)];exact .inr (.inl rfl)
  ·rw [h2,jq (by decide)];exact .inr (.inr rfl)
 |bi n a b iha ihb=>
  intro⟨⟨h1,_,_,_⟩,ha,hb⟩ ⟨hra,hrb⟩ ⟨hca,hcb⟩
  rw [PB]
  rcases iha ha hra hca with⟨h2,h3⟩|h2|h2
  ·rw [nD h2]
   rcases ihb hb hrb hcb with⟨k2,k3⟩|k2|k2
   ·rw [nD k2]
    rcases vV h1 (by decide) h3 k3 with⟨h4,h5,_⟩|⟨h4,_⟩|⟨h4,_⟩
    ·exact .inl ⟨h4,h5⟩
    ·exact .inr (.inl h4)
    ·exact .inr (.inr h4)
   ·rw [k2,jq (by decide)];exact .inr (.inl rfl)
   ·rw [k2,jq (by decide)];exact .inr (.inr rfl)
  ·rw [h2,jq (by decide)];exact .inr (.inl rfl)
  ·rw [h2,jq (by decide)];exact .inr (.inr rfl)
theorem IS(stack l:List ac)(h:stack.length+l.length≤100000):k6 (stack++l) (l.length:Int)=some (l,stack):=by
 unfold k6 fP
 have e:IntKind.i64.wrap (((stack++l).length:Int)-(l.length:Int))=(stack.length:Int):=by
  rw [jg,cv (by omega) (by omega)];omega
 rw [e,mb stack.length (stack++l).length rfl rfl (by simp) (dh _)]
 simp only [be,xQ,Hc (dh _),List.drop_length,kz]
 rw [cq (by simp;omega)]
 simp only [be,kz]
 rw [mb (i:=0) 0 stack.length rfl rfl (lS _) (by simp)]
 simp
theorem za(stack:List ac){b:Int}(h:b≠0):gB b stack=some (zV,b):=by
 unfold gB;rw [aY (by simpa using h)];rfl
theorem H4(r:List ac)(n:bp)(h:pk n.Tag=some k)(hk:k≠0){b:ac}(ha:Pl a)(hb:Pl b){l:List ac}(h0:cN l 0=some a)(h1:cN l (IntKind.i64.wrap ((l.length:Int)-1))=some b):
  i6 r BS n l=some ((Cu n.Tag a b).1,(dz n.Tag a b).2):=by
 have hn:=RX h hk
 unfold i6
 rw [aK (by simp;omega),aK (by simp;omega),h0]
 simp only [be]
 rw [h1]
 simp only [be]
 have:=Zw h hk ha hb
 unfold WD at this
 rw [this]
 simp only [be]
 unfold qz
 rcases vV h hk ha hb with⟨h2,_,h4⟩|⟨h2,h4⟩|⟨h2,h4,_⟩
 ·rw [h4]at h2;rw [h4,h2];rfl
 ·rw [h2,h4];rfl
 ·rw [h2,h4];rfl
theorem Nm(r:List ac)(t:Tr):t.wf→T7 t→yK r t→ ∀(s:Nat) (rest:List bp) (stack:List ac),stack.length+t.size≤50000→
  dH (i6 r BS) (t.flat s++rest) 0 stack=if(ev r t).2=0 then dH (i6 r BS) rest 0 (stack++[(ev r t).1])else some (zV,(ev r t).2):=by
 induction t with
 |lf n=>
  intro⟨h1,h2,h3,h4⟩ hr hc s rest stack hl
  simp only [Tr.flat,Tr.size,wl,kz]at hl ⊢
  rw [dH]
  have e1:(ie n (-1) (-1)).Tag=n.Tag:=rfl
  rw [e1,nR h1]
  have h0:=IS stack [] (by simp;omega)
  simp only [sw,pY]at h0
  simp only [be]
  rw [h0]
  simp only [be]
  have hv:i6 r BS (ie n (-1) (-1)) []=some (ev r (.lf n)):=by
   unfold i6 ev
   simp only [e1]
   rcases ZQ h1 with ht|ht
   ·rw [aY (by simp [ht]),aY ht];rfl
   ·rw [aK (by simp [ht]),aY (by simp [ht]),aK (by simp [ht])]
    have hb:=N9 h2 ht
    obtain⟨hm,v,hv,_⟩:=hc ht
    have e2:(ie n (-1) (-1)).Col=n.Col:=rfl
    rw [e2,hJ n.Col.toNat (by omega),hv]
    rfl
  have e0:(ev r (.lf n)).2=0:=by unfold ev;split<;>rfl
  rw [hv,aY e0]
  simp only [be,e0]
  rw [aK (by simp),cq (by simp;omega)]
  rfl
 |un n a ih=>
  intro⟨⟨h1,h2,h3,h4⟩,ha⟩ hr hc s rest stack hl
  simp only [Tr.flat,Tr.size,jX]at hl ⊢
  rw [PA,ih ha hr hc s _ stack (by omega)]
  by_cases hx:(ev r a).2=0
  ·have hp:Pl (ev r a).1:=by
    rcases ny r a ha hr hc with⟨_,h⟩|h|h
    ·exact h
    ·rw [h]at hx;cases hx
    ·rw [h]at hx;cases hx
   rw [aY hx,nD hx]
   generalize (ev r a).1=x at hp
   simp only [wl,kz]
   rw [dH]
   have e1:(ie n (((s+a.size:Nat):Int)-1) (-1)).Tag=n.Tag:=rfl
   rw [e1,nR h1]
   have h0:=IS stack [x] (by simp;omega)
   simp only [be]
   have e0:(([x]:List ac).length:Int)=((1:Nat):Int):=rfl
   rw [←e0,h0]
   simp only [be]
   rw [H4 r (ie n (((s+a.size:Nat):Int)-1) (-1)) (k:=1) h1 (by decide) hp hp rfl rfl]
   simp only [be,e1]
   rcases vV h1 (by decide) hp hp with⟨h5,_,h6⟩|⟨h5,_⟩|⟨h5,_⟩
   ·rw [aK (by simp [h5]),aY h5,cq (by simp;omega),h6];rfl
   ·rw [h5,aY (by decide),za _ (by decide),aK (by decide)]
   ·rw [h5,aY (by decide),za _ (by decide),aK (by decide)]
  ·rw [aK hx,jq hx,aK hx]
 |bi n a b iha ihb=>
  intro⟨⟨h1,h2,h3,h4⟩,ha,hb⟩ ⟨hra,hrb⟩ ⟨hca,hcb⟩ s rest stack hl
  simp only [Tr.flat,Tr.size,jX]at hl ⊢
  rw [PB,iha ha hra hca s _ stack (by omega)]
  by_cases hx:(ev r a).2=0
  ·have hp:Pl (ev r a).1:=by
    rcases ny r a ha hra hca with⟨_,h⟩|h|h
    ·exact h
    ·rw [h]at hx;cases hx
    ·rw [h]at hx;cases hx
   rw [aY hx,nD hx]
   generalize (ev r a).1=x at hp
   rw [ihb hb hrb hcb (s+a.size) _ (stack++[x]) (by have:=a.size_pos;simp;omega)]
   by_cases hy:(ev r b).2=0
   ·have hq:Pl (ev r b).1:=by
     rcases ny r b hb hrb hcb with⟨_,h⟩|h|h
     ·exact h
     ·rw [h]at hy;cases hy
     ·rw [h]at hy;cases hy
    rw [aY hy,nD hy]
    generalize (ev r b).1=y at hq
    have hap:=a.size_pos
    simp only [wl,kz]
    rw [dH]
    have e1:(ie n (((s+a.size:Nat):Int)-1) (((s+a.size+b.size:Nat):Int)-1)).Tag=n.Tag:=rfl
    rw [e1,nR h1]
    have h0:=IS stack [x,y] (by simp;omega)
    simp only [be]
    have e0:(([x,y]:List ac).length:Int)=((2:Nat):Int):=rfl
    have e9:stack++[x]++[y]=stack++[x,y]:=by simp
    rw [←e0,e9,h0]
    simp only [be]
    rw [H4 r (ie n (((s+a.size:Nat):Int)-1) (((s+a.size+b.size:Nat):Int)-1)) (k:=2) h1 (by decide) hp hq rfl rfl]
    simp only [be,e1]
    rcases vV h1 (by decide) hp hq with⟨h5,_,h6⟩|⟨h5,_⟩|⟨h5,_⟩
    ·rw [aK (by simp [h5]),aY h5,cq (by simp;omega),h6];rfl
    ·rw [h5,aY (by decide),za _ (by decide),aK (by decide)]
    ·rw [h5,aY (by decide),za _ (by decide),aK (by decide)]
   ·rw [aK hy,jq hy,aK hy]
  ·rw [aK hx,jq hx,aK hx]
def zL(r:List ac)(c:Int):Bool:=decide (c<(r.length:Int))&&mX ((r[c.toNat]?).getD zV)
def uo(r:List ac)(ns:List bp):Bool:=ns.all fun n=> !(n.Tag==2)||zL r n.Col
def IE(ns:List bp):Prop:= ∀n∈ns,r64 n.Value.N
def Uy(r:List ac):Prop:= ∀v∈r,r64 v.N
theorem QZ(hr:Uy r){c:Int}(h0:0≤c)(h:zL r c=true):c.toNat<r.length∧ ∃v,r[c.toNat]? =some v∧Pl v:=by
 unfold zL at h
 rw [my,kM]at h
 have hlt:c.toNat<r.length:=by omega
 refine⟨hlt,r[c.toNat],oM hlt,?_⟩
 have h2:=h.2
 rw [oM hlt]at h2
 exact Fh h2 (hr _ (JQ hlt))
theorem wW(hr:Uy r)(t:Tr):t.wf→ ∀s,uo r (t.flat s)=true→yK r t:=by
 induction t with
 |lf n=>
  intro⟨_,h2,_,_⟩ s h ht
  simp only [uo,Tr.flat,xE,List.all_nil,xM]at h
  have e1:(ie n (-1) (-1)).Tag=n.Tag:=rfl
  have e2:(ie n (-1) (-1)).Col=n.Col:=rfl
  rw [e1,e2,ht]at h
  exact QZ hr (N9 h2 ht).1 (by simpa using h)
 |un n a ih=>
  intro⟨_,ha⟩ s h
  simp only [uo,Tr.flat,G1,my]at h
  exact ih ha s h.1
 |bi n a b iha ihb=>
  intro⟨_,ha,hb⟩ s h
  simp only [uo,Tr.flat,G1,my]at h
  exact⟨iha ha s h.1.1,ihb hb _ h.1.2⟩
theorem Bp(t:Tr): ∀s,IE (t.flat s)→T7 t:=by
 induction t with
 |lf n=>intro s h;exact h (ie n (-1) (-1)) (by simp [Tr.flat])
 |un n a ih=>intro s h;exact ih s fun m hm=>h m (by simp [Tr.flat,hm])
 |bi n a b iha ihb=>intro s h;exact⟨iha s fun m hm=>h m (by simp [Tr.flat,hm]),ihb _ fun m hm=>h m (by simp only [Tr.flat,zA];exact .inl (.inr hm))⟩
theorem EL{t:Tr}(hw:t.wf): ∀s {n:bp},n∈t.flat s→n.Tag=2→0≤n.Col∧n.Col<16:=by
 induction t with
 |lf m=>
  intro s n hn ht
  simp only [Tr.flat,A3]at hn
  subst hn
  exact N9 hw.2.1 ht
 |un m a ih=>
  intro s n hn ht
  simp only [Tr.flat,zA,A3]at hn
  rcases hn with hn|rfl
  ·exact ih hw.2 s hn ht
  ·exact absurd (pk2 hw.1.1 ht) (by decide)
 |bi m a b iha ihb=>
  intro s n hn ht
  simp only [Tr.flat,zA,A3]at hn
  rcases hn with(hn|hn)|rfl
  ·exact iha hw.2.1 s hn ht
  ·exact ihb hw.2.2 _ hn ht
  ·exact absurd (pk2 hw.1.1 ht) (by decide)
def o6(r:List ac)(ns:List bp):ac×Int:=match mM ns with
 |none=>(zV,200)
 |some t=>if uo r ns then ev r t else(zV,2)
theorem Gk(e:bJ)(r:List ac)(x:ac): ∀cs:List Int,(∀c∈cs,0≤c)→oW e r cs x=if cs.all (zL r)then iS e (i6 r BS)else some (zV,2)
 |[],_=>by
  unfold oW
  rw [Ju]
  simp only [be]
  cases iS e (i6 r BS)<;>rfl
 |c::cs,hc=>by
  unfold oW
  rw [Gk e r x cs fun c hm=>hc c (kN _ hm)]
  have h0:=hc c (kZ ..)
  by_cases h:(r.length:Int)≤c
  ·have hb:zL r c=false:=by unfold zL;rw [Bool.and_eq_false_iff];left;simp;omega
   simp [h,hb,zV]
  ·have hlt:c.toNat<r.length:=by omega
   have e1:cN r c=some r[c.toNat]:=by rw [hJ c.toNat (by omega),oM hlt]
   have hb:zL r c=mX r[c.toNat]:=by
    unfold zL
    rw [oM hlt]
    have:decide (c<(r.length:Int))=true:=by simp;omega
    rw [this];rfl
   rw [aY (by simpa using h),e1]
   simp only [be,tF]
   rw [xE,hb]
   cases mX r[c.toNat]<;>simp [zV]
theorem KM(r:List ac){t:Tr}(hw:t.wf)(hr:T7 t)(hc:yK r t)(hs:t.size≤1000):iS ⟨t.flat 0⟩ (i6 r BS)=some (ev r t):=by
 unfold iS
 have h:=Nm r t hw hr hc 0 [] [] (by simp;omega)
 rw [sw]at h
 rw [h]
 rcases ny r t hw hr hc with⟨h2,h3⟩|h2|h2
 ·rw [aY h2]
  unfold dH gB
  rw [aK (by simp)]
  simp only [kz]
  rw [show cN [(ev r t).1] 0=some (ev r t).1 from rfl]
  simp only [be]
  congr 1
  exact Prod.ext rfl h2.symm
 ·rw [h2,aK (by decide)]
 ·rw [h2,aK (by decide)]
theorem wS(e:bJ)(r:List ac)(hl:e.Nodes.length≤50000)(he:IE e.Nodes)(hr:Uy r):tq e r=some (o6 r e.Nodes):=by
 unfold tq o6
 rw [vk e (by omega)]
 cases ht:mM e.Nodes with
 |none=>
  have:kh e.Nodes=false:=by unfold kh;rw [ht];rfl
  rw [this];rfl
 |some t=>
  have hri:kh e.Nodes=true:=by unfold kh;rw [ht];rfl
  obtain⟨hw,hN,hs⟩:=kp ht
  rw [hri]
  simp only [eg,be]
  rw [aK (by decide)]
  obtain⟨cs,h1,h2⟩:=BN e hri
  rw [h1]
  simp only [be]
  have hcnt: ∀n∈e.Nodes,n.Tag=2→0≤n.Col:=fun n hn htag=>by
   rw [hN]at hn
   exact(EL hw 0 hn htag).1
  rw [Gk e r _ cs fun c hc=>by obtain⟨n,hn,htag,rfl⟩:=(h2 c).1 hc;exact hcnt n hn htag]
  have hcols:cs.all (zL r)=uo r e.Nodes:=by
   rw [AZ,jW]
   unfold uo
   rw [jW]
   constructor
   ·intro h n hn
    by_cases htag:n.Tag=2
    ·rw [h n.Col ((h2 _).2 ⟨n,hn,htag,rfl⟩)];simp
    ·simp [htag]
   ·intro h c hc
    obtain⟨n,hn,htag,rfl⟩:=(h2 c).1 hc
    have:=h n hn
    simpa [htag] using this
  rw [hcols]
  cases hb:uo r e.Nodes with
  |false=>rfl
  |true=>
   simp only [eg]
   have e9:e=⟨t.flat 0⟩:=by cases e;simp only at hN;rw [hN]
   rw [hN]at he hb
   rw [e9]
   exact KM r hw (Bp t 0 he) (wW hr t hw 0 hb) hs


variable{ka kb:Int}
theorem Lh(ht:tag=4∨tag=12∨tag=13∨tag=14∨tag=15):kn tag ka kb=(2,(ka==2||ka==0)&&(kb==2||kb==0)):=by
 rcases ht with rfl|rfl|rfl|rfl|rfl<;>(unfold kn jl iI;cases (ka==2||ka==0)<;>cases (kb==2||kb==0)<;>rfl)
theorem Sl(ht:tag=5∨tag=22∨tag=23):kn tag ka kb=(1,(ka==1||ka==0)&&(kb==1||kb==0)):=by
 rcases ht with rfl|rfl|rfl<;>(unfold kn jl iI;cases (ka==1||ka==0)<;>cases (kb==1||kb==0)<;>rfl)
def re(v:ac)(k:Int):Prop:=v.Kind=k∨v.Kind=0
theorem KE(h:pk tag=some k)(hk:k≠0){b:ac}(ha:Pl a)(hb:Pl b)(h1:re a ka)(h2:k=1∧b=a∧kb=0∨k=2∧re b kb)(hn:(kn tag ka kb).2=true):
  ((Cu tag a b).2=0∧re (Cu tag a b).1 (kn tag ka kb).1)∨Cu tag a b=(zV,140):=by
 have har: ∀t x y,re x 2→re y 2→((xz t x y).2=0∧re (xz t x y).1 2)∨xz t x y=(zV,140):=by
  intro t x y hx hy
  unfold xz
  rw [aY ⟨hx.symm,hy.symm⟩]
  split
  ·exact .inl ⟨rfl,.inr rfl⟩
  ·split
   ·exact .inl ⟨rfl,.inl rfl⟩
   ·exact .inr rfl
 have hbv: ∀x,(bV x).Kind=1:=fun _=>rfl
 have htv: ∀{v},Tu v→re v 1:=fun h=>by cases h;exact .inr rfl;exact .inl rfl
 have hh: ∀f,(a.Kind=b.Kind∨a.Kind=0∨b.Kind=0)→(eJ f a b).2=0∧(eJ f b a).2=0:=by
  intro f hx
  unfold eJ
  constructor
  ·split
   ·rfl
   ·rw [aY (by rename_i h9;simp only [not_or]at h9;rcases hx with h|h|h;exact h;exact absurd h h9.1;exact absurd h h9.2)]
  ·split
   ·rfl
   ·rw [aY (by rename_i h9;simp only [not_or]at h9;rcases hx with h|h|h;exact h.symm;exact absurd h h9.2;exact absurd h h9.1)]
 have hkk:k=2→(ka=kb∨ka=0∨kb=0)→(a.Kind=b.Kind∨a.Kind=0∨b.Kind=0):=by
  intro h9 h
  rcases h2 with⟨h5,_⟩|⟨_,h2⟩
  ·omega
  unfold re at h1 h2
  rcases h with h|h|h<;>rcases h1 with h1|h1<;>rcases h2 with h2|h2<;>simp_all
 have hno: ∀f x y,(eJ f x y).2=0→(Fu (eJ f x y)).2=0∧re (Fu (eJ f x y)).1 1:=by
  intro f x y h9
  unfold Fu
  rw [aY h9]
  exact⟨rfl,htv (Ed (sf f x y h9))⟩
 have h3:k=2→re b kb:=by intro h9;rcases h2 with⟨h5,_⟩|⟨_,h2⟩;omega;exact h2
 have h10: ∀{x:ac} {kx:Int},re x kx→kx=2∨kx=0→re x 2:=by
  intro x kx h h';unfold re at*;omega
 have h11: ∀{x:ac} {kx:Int},re x kx→kx=1∨kx=0→x.Kind≤1:=by
  intro x kx h h';unfold re at*;omega
 rcases RX h hk with rfl|rfl|rfl|rfl|rfl|rfl|rfl|rfl|rfl|rfl|rfl|rfl|rfl|rfl|rfl|rfl
 ·rw [Lh (by decide)]at hn ⊢
  have hx:ka=2∨ka=0:=by simp at hn;exact hn.1
  have:=har 13 (iV 0) a (.inl rfl) (h10 h1 hx)
  exact this
 ·rw [Sl (by decide)]at hn ⊢
  have hx:ka=1∨ka=0:=by simp at hn;exact hn.1
  have e:Cu 5 a b=(GN a,0):=by
   show(if a.Kind≤1 then(GN a,0)else(zV,2))=_
   rw [aY (h11 h1 hx)]
  rw [e];exact .inl ⟨rfl,htv (Ed ((jh ha).2 (h11 h1 hx)))⟩
 ·exact .inl ⟨rfl,.inl rfl⟩
 ·exact .inl ⟨rfl,.inl rfl⟩
 all_goals have hk2:k=2:=by simp [pk]at h;omega
 all_goals have hb3:=h3 hk2
 ·rw [Lh (by decide)]at hn ⊢
  have hx:(ka=2∨ka=0)∧(kb=2∨kb=0):=by simp at hn;exact hn
  exact har 12 a b (h10 h1 hx.1) (h10 hb3 hx.2)
 ·rw [Lh (by decide)]at hn ⊢
  have hx:(ka=2∨ka=0)∧(kb=2∨kb=0):=by simp at hn;exact hn
  exact har 13 a b (h10 h1 hx.1) (h10 hb3 hx.2)
 ·rw [Lh (by decide)]at hn ⊢
  have hx:(ka=2∨ka=0)∧(kb=2∨kb=0):=by simp at hn;exact hn
  exact har 14 a b (h10 h1 hx.1) (h10 hb3 hx.2)
 ·rw [Lh (by decide)]at hn ⊢
  have hx:(ka=2∨ka=0)∧(kb=2∨kb=0):=by simp at hn;exact hn
  exact har 15 a b (h10 h1 hx.1) (h10 hb3 hx.2)
 ·have hx:ka=kb∨ka=0∨kb=0:=by simp [kn,jl,iI]at hn;omega
  have:=(hh (fun c=>c==0) (hkk hk2 hx)).1
  exact .inl ⟨this,htv (sf _ a b this)⟩
 ·have hx:ka=kb∨ka=0∨kb=0:=by simp [kn,jl,iI]at hn;omega
  exact .inl (hno (fun c=>c==0) a b (hh _ (hkk hk2 hx)).1)
 ·have hx:ka=kb∨ka=0∨kb=0:=by simp [kn,jl,iI]at hn;omega
  have:=(hh (fun c=>decide (c<0)) (hkk hk2 hx)).1
  exact .inl ⟨this,htv (sf _ a b this)⟩
 ·have hx:ka=kb∨ka=0∨kb=0:=by simp [kn,jl,iI]at hn;omega
  exact .inl (hno (fun c=>decide (c<0)) b a (hh _ (hkk hk2 hx)).2)
 ·have hx:ka=kb∨ka=0∨kb=0:=by simp [kn,jl,iI]at hn;omega
  have:=(hh (fun c=>decide (c<0)) (hkk hk2 hx)).2
  exact .inl ⟨this,htv (sf _ b a this)⟩
 ·have hx:ka=kb∨ka=0∨kb=0:=by simp [kn,jl,iI]at hn;omega
  exact .inl (hno (fun c=>decide (c<0)) a b (hh _ (hkk hk2 hx)).1)
 ·rw [Sl (by decide)]at hn ⊢
  have hx:(ka=1∨ka=0)∧(kb=1∨kb=0):=by simp at hn;exact hn
  have e:Cu 22 a b=(F8 a b,0):=by
   show(if a.Kind≤1∧b.Kind≤1 then(F8 a b,0)else(zV,2))=_
   rw [aY ⟨h11 h1 hx.1,h11 hb3 hx.2⟩]
  rw [e];exact .inl ⟨rfl,htv (PP ((jh ha).2 (h11 h1 hx.1)) ((jh hb).2 (h11 hb3 hx.2)))⟩
 ·rw [Sl (by decide)]at hn ⊢
  have hx:(ka=1∨ka=0)∧(kb=1∨kb=0):=by simp at hn;exact hn
  have e:Cu 23 a b=(T8 a b,0):=by
   show(if a.Kind≤1∧b.Kind≤1 then(T8 a b,0)else(zV,2))=_
   rw [aY ⟨h11 h1 hx.1,h11 hb3 hx.2⟩]
  rw [e];exact .inl ⟨rfl,htv (R1 ((jh ha).2 (h11 h1 hx.1)) ((jh hb).2 (h11 hb3 hx.2)))⟩
def kindR(kinds:List Int)(r:List ac):Prop:= ∀(j:Nat) (k:Int),kinds[j]? =some k→ ∃v,r[j]? =some v∧Pl v∧re v k
theorem aaw(hk4: ∀k∈kinds,k4 k)(hr:kindR kinds r)(t:Tr):t.wf→T7 t→yK r t→DD kinds.length t→ ∀{k},kd kinds t=some k→
  ((ev r t).2=0∧re (ev r t).1 k)∨(ev r t=(zV,140)∧ ∀s,(t.flat s).any ZJ=true):=by
 induction t with
 |lf n=>
  intro⟨h1,h2,_,_⟩ hg hc hcT k hk
  unfold kd at hk
  unfold ev
  split at hk
  ·rename_i ht;rw [aY ht];cases hk;exact .inl ⟨rfl,.inl rfl⟩
  ·rename_i ht
   have ht2:n.Tag=2:=(ZQ h1).resolve_left ht
   have hlt:=hcT ht2
   have h0:=(N9 h2 ht2).1
   rw [aK ht]
   have hgk:kinds[n.Col.toNat]? =some k:=by
    rw [oM (by omega)]at hk ⊢
    simpa using hk
   obtain⟨v,h3,h4,h5⟩:=hr _ _ hgk
   rw [h3];exact .inl ⟨rfl,h5⟩
 |un n a ih=>
  intro⟨⟨h1,_,_,_⟩,ha⟩ hg hc hcT k hk
  rw [O6]at hk
  cases hx:kd kinds a with
  |none=>rw [hx]at hk;cases hk
  |some x=>
   rw [hx,be]at hk
   split at hk
   ·rename_i hkn
    cases hk
    rw [PA]
    rcases ih ha hg hc hcT hx with⟨h2,h3⟩|⟨h2,h3⟩
    ·rw [nD h2]
     have hp:Pl (ev r a).1:=by
      rcases ny r a ha hg hc with⟨_,h⟩|h|h
      ·exact h
      ·rw [h]at h2;cases h2
      ·rw [h]at h2;cases h2
     unfold dz
     rcases KE h1 (by decide) hp hp h3 (.inl ⟨rfl,rfl,rfl⟩) hkn with⟨h4,h5⟩|h4
     ·rw [aY h4];exact .inl ⟨h4,h5⟩
     ·rcases Ct h1 (by decide) hp hp with⟨h6,_⟩|h6|⟨_,h6⟩
      ·rw [h4]at h6;cases h6
      ·rw [h4]at h6;cases h6
      ·rw [h4]
       exact .inr ⟨rfl,fun s=>by simp only [Tr.flat,G0,vu,List.any_nil,Bool.or_false,pZ];right;simp only [ZJ];have:(ie n (((s+a.size:Nat):Int)-1) (-1)).Tag=n.Tag:=rfl;rw [this];simp;omega⟩
    ·rw [h2,jq (by decide)]
     exact .inr ⟨rfl,fun s=>by simp only [Tr.flat,G0,pZ];exact .inl (h3 s)⟩
   ·cases hk
 |bi n a b iha ihb=>
  intro⟨⟨h1,_,_,_⟩,ha,hb⟩ ⟨hga,hgb⟩ ⟨hca,hcb⟩ ⟨hTa,hTb⟩ k hk
  rw [Lt]at hk
  cases hx:kd kinds a with
  |none=>rw [hx]at hk;cases hk
  |some x=>
   cases hy:kd kinds b with
   |none=>rw [hx,hy]at hk;cases hk
   |some y=>
    rw [hx,hy]at hk
    simp only [be]at hk
    split at hk
    ·rename_i hkn
     cases hk
     rw [PB]
     rcases iha ha hga hca hTa hx with⟨h2,h3⟩|⟨h2,h3⟩
     ·rw [nD h2]
      have hp:Pl (ev r a).1:=by
       rcases ny r a ha hga hca with⟨_,h⟩|h|h
       ·exact h
       ·rw [h]at h2;cases h2
       ·rw [h]at h2;cases h2
      rcases ihb hb hgb hcb hTb hy with⟨q2,q3⟩|⟨q2,q3⟩
      ·rw [nD q2]
       have hq:Pl (ev r b).1:=by
        rcases ny r b hb hgb hcb with⟨_,h⟩|h|h
        ·exact h
        ·rw [h]at q2;cases q2
        ·rw [h]at q2;cases q2
       unfold dz
       rcases KE h1 (by decide) hp hq h3 (.inr ⟨rfl,q3⟩) hkn with⟨h4,h5⟩|h4
       ·rw [aY h4];exact .inl ⟨h4,h5⟩
       ·rcases Ct h1 (by decide) hp hq with⟨h6,_⟩|h6|⟨_,h6⟩
        ·rw [h4]at h6;cases h6
        ·rw [h4]at h6;cases h6
        ·rw [h4]
         exact .inr ⟨rfl,fun s=>by simp only [Tr.flat,G0,vu,List.any_nil,Bool.or_false,pZ];right;simp only [ZJ];have:(ie n (((s+a.size:Nat):Int)-1) (((s+a.size+b.size:Nat):Int)-1)).Tag=n.Tag:=rfl;rw [this];simp;omega⟩
      ·rw [q2,jq (by decide)]
       exact .inr ⟨rfl,fun s=>by simp only [Tr.flat,G0,pZ];exact .inl (.inr (q3 _))⟩
     ·rw [h2,jq (by decide)]
      exact .inr ⟨rfl,fun s=>by simp only [Tr.flat,G0,pZ];exact .inl (.inl (h3 s))⟩
    ·cases hk
theorem Sn{e:bJ}(h:(fR e kinds).2=0): ∃t,mM e.Nodes=some t∧(∀k∈kinds,k4 k)∧rp kinds.length e.Nodes=true∧kd kinds t=some (fR e kinds).1:=by
 unfold fR at h ⊢
 split at h
 ·rename_i h1
  rw [aY h1]
  split at h
  ·rename_i h2
   rw [aY h2]
   split at h
   ·rename_i h3
    rw [aY h3]
    unfold kh at h1
    cases ht:mM e.Nodes with
    |none=>rw [ht]at h1;cases h1
    |some t=>
     rw [ht]at h
     simp only [be]at h ⊢
     cases hk:kd kinds t with
     |none=>rw [hk]at h;cases h
     |some k=>exact⟨t,rfl,fun k hk=>ze h2 hk,h3,hk⟩
   ·cases h
  ·cases h
 ·cases h
theorem QG(ns:List bp)(hl:ns.length≤200)(hg:IE ns)(kinds:List Int)(h:(fR ⟨ns⟩ kinds).2=0)(own:List ac)(hr:kindR kinds own)(hrg:Uy own)(hlen:own.length=kinds.length):
  ((o6 own ns).2=0∧Pl (o6 own ns).1∧re (o6 own ns).1 (fR ⟨ns⟩ kinds).1)∨((o6 own ns).2=140∧ns.any ZJ=true):=by
 obtain⟨t,ht,hk4,hcols,hkd⟩:=Sn h
 obtain⟨hw,hN,hs⟩:=kp ht
 have hN:ns=t.flat 0:=hN
 have hcT:DD kinds.length t:=yL _ t hw 0 (by rw [←hN];exact hcols)
 have hcB:uo own ns=true:=by
  unfold uo
  rw [jW]
  intro n hn
  by_cases htag:n.Tag=2
  ·have hc:=jW.1 hcols n hn
   have h0:=(EL hw 0 (by rw [←hN];exact hn) htag).1
   simp [htag]at hc ⊢
   have hlt:n.Col.toNat<kinds.length:=by omega
   obtain⟨v,hv,hp,_⟩:=hr n.Col.toNat kinds[n.Col.toNat] (oM hlt)
   unfold zL
   rw [hv]
   have e1:decide (n.Col<(own.length:Int))=true:=by simp;omega
   rw [e1];simpa using hp.plain
  ·simp [htag]
 have hcV:yK own t:=wW hrg t hw 0 (by rw [←hN];exact hcB)
 have hgT:=Bp t 0 (by rw [←hN];exact hg)
 have hev:o6 own ns=ev own t:=by unfold o6;rw [ht];simp [hcB]
 rw [hev]
 rcases aaw hk4 hr t hw hgT hcV hcT hkd with⟨h2,h3⟩|⟨h2,h3⟩
 ·left
  refine⟨h2,?_,h3⟩
  rcases ny own t hw hgT hcV with⟨_,h⟩|h|h
  ·exact h
  ·rw [h]at h2;cases h2
  ·rw [h]at h2;cases h2
 ·right
  rw [h2]
  exact⟨rfl,by rw [hN];exact h3 0⟩

def sh(s:Nat)(x:Int):Int:=if 0≤x then x+(s:Int)else x
def cb(r:List ac):Tr→Bool
 | .lf n=> !(n.Tag==2)||zL r n.Col
 | .un _ a=>cb r a
 | .bi _ a b=>cb r a&&cb r b

def us(s:Nat)(x:Int):Int:=if 0≤x then x-(s:Int)else x

def fA(v:ac)(l:List ac):ac:=l.foldl F8 v

theorem j5{a b:Bool}(h:a=true↔b=true):a=b:=by cases a<;>cases b<;>simp_all

theorem Ee(h:r64 x):(BitVec.ofInt 64 x).msb=decide (x<0):=by
 unfold r64 at h
 rw [BitVec.msb_eq_toInt,BitVec.toInt_ofInt]
 congr 1
 have:x.bmod (2^64)=x:=by
  rw [Int.bmod_def]
  split<;>omega
 rw [this]
theorem EF(b:BitVec 64):IntKind.i64.wrap (b.toNat:Int)=b.toInt:=by
 rw [wk,BitVec.toInt_eq_toNat_cond]
 have:=b.isLt
 first|done|omega|(split<;>omega)
theorem yR(hx:r64 x)(hy:r64 y):(decide (fk .xor .i64 x y<0))=(decide (x<0) !=decide (y<0))∧r64 (fk .xor .i64 x y):=by
 refine⟨?_,pe _⟩
 have e:fk .xor .i64 x y=(BitVec.ofInt 64 x^^^BitVec.ofInt 64 y).toInt:=EF _
 rw [e,←BitVec.msb_eq_toInt,BitVec.msb_xor,Ee hx,Ee hy]
theorem JC(hx:r64 x)(hy:r64 y):(decide (fk .and .i64 x y<0))=(decide (x<0)&&decide (y<0)):=by
 have e:fk .and .i64 x y=(BitVec.ofInt 64 x&&&BitVec.ofInt 64 y).toInt:=EF _
 rw [e,←BitVec.msb_eq_toInt,BitVec.msb_and,Ee hx,Ee hy]
theorem F0(z:Int):decide (0≤z)= !decide (z<0):=by
 by_cases h:z<0
 ·have: ¬0≤z:=by omega
  simp [h,this]
 ·have:0≤z:=by omega
  simp [h,this]
instance(z:Int):Decidable (r64 z):=by unfold r64;infer_instance
theorem TM(hx:r64 x)(hy:r64 y):Og 12 x y=(IntKind.i64.wrap (x+y),decide (r64 (x+y))):=by
 have hc:=pe (x+y)
 show(IntKind.i64.wrap (x+y),_)=_
 congr 1
 show decide ((0:Int)≤_)=_
 obtain⟨h1,h2⟩:=yR hx hc
 obtain⟨h3,h4⟩:=yR hy hc
 rw [F0,JC h2 h4,h1,h3]
 have hcw:=wk (x+y)
 unfold r64 at hx hy hc ⊢
 generalize IntKind.i64.wrap (x+y)=c at hc hcw ⊢
 by_cases hr: -9223372036854775808≤x+y∧x+y≤9223372036854775807
 ·rw [xF hr]
  by_cases p1:x<0<;>by_cases p2:y<0<;>by_cases p3:c<0<;>simp only [p1,p2,p3,C5,decide_false]<;>first|rfl|(exfalso;omega)
 ·rw [xG hr]
  by_cases p1:x<0<;>by_cases p2:y<0<;>by_cases p3:c<0<;>simp only [p1,p2,p3,C5,decide_false]<;>first|rfl|(exfalso;omega)
theorem RJ(hx:r64 x)(hy:r64 y):Og 13 x y=(IntKind.i64.wrap (x-y),decide (r64 (x-y))):=by
 have hc:=pe (x-y)
 show(IntKind.i64.wrap (x-y),_)=_
 congr 1
 show decide ((0:Int)≤_)=_
 obtain⟨h1,h2⟩:=yR hx hy
 obtain⟨h3,h4⟩:=yR hx hc
 rw [F0,JC h2 h4,h1,h3]
 have hcw:=wk (x-y)
 unfold r64 at hx hy hc ⊢
 generalize IntKind.i64.wrap (x-y)=c at hc hcw ⊢
 by_cases hr: -9223372036854775808≤x-y∧x-y≤9223372036854775807
 ·rw [xF hr]
  by_cases p1:x<0<;>by_cases p2:y<0<;>by_cases p3:c<0<;>simp only [p1,p2,p3,C5,decide_false]<;>first|rfl|(exfalso;omega)
 ·rw [xG hr]
  by_cases p1:x<0<;>by_cases p2:y<0<;>by_cases p3:c<0<;>simp only [p1,p2,p3,C5,decide_false]<;>first|rfl|(exfalso;omega)
theorem F7{y:Nat}(h:y<18446744073709551616):fk .and .u64 (y:Int) 4294967295=((y%4294967296:Nat):Int):=by
 have e:fk .and .u64 (y:Int) 4294967295=IntKind.u64.wrap (((BitVec.ofInt 64 (y:Int)&&&BitVec.ofInt 64 4294967295).toNat:Nat):Int):=rfl
 have e1:BitVec.ofInt 64 (y:Int)=BitVec.ofNat 64 y:=BitVec.ofInt_natCast 64 y
 have e2:BitVec.ofInt 64 4294967295=BitVec.ofNat 64 (2^32-1):=by decide
 rw [e,e1,e2,BitVec.toNat_and,BitVec.toNat_ofNat,BitVec.toNat_ofNat,C8 (by omega:y<2^64),C8 (by omega:2^32-1<2^64),Nat.and_two_pow_sub_one_eq_mod,Hd (by omega) (by omega)]
theorem xg(y:Nat):((y:Int)).fdiv (2^(min (Int.toNat (32:Int)) IntKind.u64.bits))=((y/4294967296:Nat):Int):=by
 have e:(2:Int)^(min (Int.toNat (32:Int)) IntKind.u64.bits)=4294967296:=by decide
 rw [e,Int.fdiv_eq_ediv_of_nonneg _ (by decide)]
 rfl
theorem qP{n:Nat}(h:n<18446744073709551616):IntKind.u64.wrap (n:Int)=(n:Int):=Hd (by omega) (by omega)
theorem Sd(x y:Nat)(hx:x<18446744073709551616)(hy:y<18446744073709551616):nq (x:Int) (y:Int)=some (((x*y/18446744073709551616:Nat):Int),((x*y%18446744073709551616:Nat):Int)):=by
 unfold nq
 have hx0:x%4294967296<4294967296:=vo _ (by decide)
 have hy0:y%4294967296<4294967296:=vo _ (by decide)
 have hx1:x/4294967296<4294967296:=by omega
 have hy1:y/4294967296<4294967296:=by omega
 have ex:x=x/4294967296*4294967296+x%4294967296:=by omega
 have ey:y=y/4294967296*4294967296+y%4294967296:=by omega
 rw [F7 hx,F7 hy,xg,xg]
 generalize x/4294967296=x1 at*
 generalize x%4294967296=x0 at*
 generalize y/4294967296=y1 at*
 generalize y%4294967296=y0 at*
 have b00:x0*y0≤4294967295*4294967295:=xu (by omega) (by omega)
 have b10:x1*y0≤4294967295*4294967295:=xu (by omega) (by omega)
 have b01:x0*y1≤4294967295*4294967295:=xu (by omega) (by omega)
 have b11:x1*y1≤4294967295*4294967295:=xu (by omega) (by omega)
 have exy:x*y=x1*y1*18446744073709551616+(x1*y0+x0*y1)*4294967296+x0*y0:=by
  rw [ex,ey]
  simp only [u8,Nat.mul_add]
  have h1:x1*4294967296*(y1*4294967296)=x1*y1*18446744073709551616:=by
   rw [Nat.mul_mul_mul_comm]
  have h2:x1*4294967296*y0=x1*y0*4294967296:=by rw [Nat.mul_right_comm]
  have h3:x0*(y1*4294967296)=x0*y1*4294967296:=by rw [Nat.mul_assoc]
  rw [h1,h2,h3];omega
 rw [←xP x1 y1,←xP x1 y0,←xP x0 y0,←xP x0 y1,←xP x y]
 rw [exy]
 generalize x0*y0=p at*
 generalize x1*y0=q at*
 generalize x0*y1=r at*
 generalize x1*y1=s at*
 rw [qP (n:=s) (by omega),qP (n:=q) (by omega),qP (n:=p) (by omega),qP (n:=r) (by omega),xg]
 rw [←A7 q (p/4294967296),qP (n:=q+p/4294967296) (by omega),xg,←A7 s,qP (n:=s+(q+p/4294967296)/4294967296) (by omega)]
 rw [F7 (by omega),←A7,qP (n:=(q+p/4294967296)%4294967296+r) (by omega),xg,←A7,qP (n:=s+(q+p/4294967296)/4294967296+((q+p/4294967296)%4294967296+r)/4294967296) (by omega)]
 congr 1
 refine Prod.ext ?_ ?_
 ·simp only
  congr 1
  omega
 ·simp only
  rw [uC];omega
theorem KH(x y:Int):x*y=if(decide (x<0) !=decide (y<0))=true then -(((x.natAbs*y.natAbs:Nat)):Int)else((x.natAbs*y.natAbs:Nat):Int):=by
 have hx:x=if x<0 then -(x.natAbs:Int)else(x.natAbs:Int):=by split<;>omega
 have hy:y=if y<0 then -(y.natAbs:Int)else(y.natAbs:Int):=by split<;>omega
 rw [xP]
 by_cases p1:x<0<;>by_cases p2:y<0
 ·rw [aY p1]at hx;rw [aY p2]at hy
  conv=>lhs;rw [hx,hy]
  simp [p1,p2,Int.neg_mul_neg]
 ·rw [aY p1]at hx;rw [aK p2]at hy
  conv=>lhs;rw [hx,hy]
  simp [p1,p2,Int.neg_mul]
 ·rw [aK p1]at hx;rw [aY p2]at hy
  conv=>lhs;rw [hx,hy]
  simp [p1,p2,Int.mul_neg]
 ·rw [aK p1]at hx;rw [aK p2]at hy
  conv=>lhs;rw [hx,hy]
  simp [p1,p2]
theorem Hl(m:Nat)(hm:m<18446744073709551616)(b:Bool): ∃n,nj (m:Int) b=some (n,decide (r64 (if b then -(m:Int)else(m:Int))))∧(r64 (if b then -(m:Int)else(m:Int))→n=if b then -(m:Int)else(m:Int)):=by
 unfold nj
 cases b with
 |true=>
  simp only [eg]
  refine⟨IntKind.i64.wrap (IntKind.u64.wrap (0-(m:Int))),?_,fun hr=>?_⟩
  ·congr 2
   exact C6.mpr (by unfold r64;omega)
  ·unfold r64 at hr
   rw [uC,wk];omega
 |false=>
  simp only [gm,d9]
  refine⟨IntKind.i64.wrap (m:Int),?_,fun hr=>?_⟩
  ·congr 2
   exact C6.mpr (by unfold r64;omega)
  ·unfold r64 at hr
   rw [wk];omega
theorem Sc(hx:r64 x)(hy:r64 y):(Og 14 x y).2=decide (r64 (x*y))∧(r64 (x*y)→(Og 14 x y).1=x*y):=by
 have ha:x.natAbs≤9223372036854775808:=by unfold r64 at hx;omega
 have hb:y.natAbs≤9223372036854775808:=by unfold r64 at hy;omega
 have hprod:=KH x y
 have e:Og 14 x y=(mI x y).getD (0,false):=rfl
 rw [e]
 unfold mI
 rw [uH x hx,uH y hy]
 simp only [be]
 rw [Sd _ _ (by omega) (by omega)]
 simp only [be]
 generalize (decide (x<0) !=decide (y<0))=b at hprod ⊢
 generalize x.natAbs*y.natAbs=m at hprod ⊢
 obtain⟨n,h1,h2⟩:=Hl (m%18446744073709551616) (vo _ (by decide)) b
 rw [h1]
 simp only [be,G3]
 rw [hprod]
 by_cases hm:m<18446744073709551616
 ·rw [C8 hm]at h2 ⊢
  have hd:m/18446744073709551616=0:=Nat.div_eq_of_lt hm
  rw [hd]
  refine⟨by simp,fun hr=>h2 hr⟩
 ·have hd:m/18446744073709551616≠0:=by omega
  have hnr: ¬r64 (if b=true then -(m:Int)else(m:Int)):=by
   unfold r64
   split<;>omega
  refine⟨?_,fun hr=>absurd hr hnr⟩
  have:((((m/18446744073709551616:Nat):Int))==0)=false:=by simp;omega
  rw [this]
  simp [hnr]
theorem KF(x y:Int):x.tdiv y=if(decide (x<0) !=decide (y<0))=true then -((x.natAbs/y.natAbs:Nat):Int)else((x.natAbs/y.natAbs:Nat):Int):=by
 have hx:x=if x<0 then -(x.natAbs:Int)else(x.natAbs:Int):=by split<;>omega
 have hy:y=if y<0 then -(y.natAbs:Int)else(y.natAbs:Int):=by split<;>omega
 have ht: ∀a b:Nat,((a:Int)).tdiv (b:Int)=((a/b:Nat):Int):=fun a b=>rfl
 by_cases p1:x<0<;>by_cases p2:y<0
 ·rw [aY p1]at hx;rw [aY p2]at hy
  conv=>lhs;rw [hx,hy]
  rw [Int.neg_tdiv,Int.tdiv_neg,ht]
  simp [p1,p2]
 ·rw [aY p1]at hx;rw [aK p2]at hy
  conv=>lhs;rw [hx,hy]
  rw [Int.neg_tdiv,ht]
  simp [p1,p2]
 ·rw [aK p1]at hx;rw [aY p2]at hy
  conv=>lhs;rw [hx,hy]
  rw [Int.tdiv_neg,ht]
  simp [p1,p2]
 ·rw [aK p1]at hx;rw [aK p2]at hy
  conv=>lhs;rw [hx,hy]
  rw [ht]
  simp [p1,p2]
theorem Te(hx:r64 x)(hy:r64 y)(h0:y≠0):(Og 15 x y).2=decide (r64 (x.tdiv y))∧(r64 (x.tdiv y)→(Og 15 x y).1=x.tdiv y):=by
 have ha:x.natAbs≤9223372036854775808:=by unfold r64 at hx;omega
 have hq:=KF x y
 have e:Og 15 x y=(mJ x y).getD (0,false):=rfl
 rw [e]
 unfold mJ
 rw [aK (by simpa using h0),uH x hx,uH y hy]
 simp only [be]
 have hn:nz ((y.natAbs:Nat):Int)=some ():=by
  unfold nz
  rw [aK (by omega)]
 rw [hn]
 have ht:((x.natAbs:Int)).tdiv (y.natAbs:Int)=((x.natAbs/y.natAbs:Nat):Int):=rfl
 have hle:x.natAbs/y.natAbs≤x.natAbs:=Nat.div_le_self _ _
 simp only [be]
 rw [ht,qP (by omega)]
 generalize (decide (x<0) !=decide (y<0))=b at hq ⊢
 obtain⟨n,h1,h2⟩:=Hl (x.natAbs/y.natAbs) (by omega) b
 rw [h1]
 simp only [be,G3]
 rw [hq]
 exact⟨rfl,h2⟩
def Zt(tag x y:Int):Option Int:=if tag=12 then some (x+y)else if tag=13 then some (x-y)else if tag=14 then some (x*y)else if y=0 then none else some (x.tdiv y)
def GE(tag x y:Int):ac×Int:=match Zt tag x y with
 |none=>(zV,140)
 |some z=>if r64 z then(iV z,0)else(zV,140)
theorem Xz(x y:Int):Zt 12 x y=some (x+y):=rfl
theorem Xy(x y:Int):Zt 13 x y=some (x-y):=rfl
theorem Xx(x y:Int):Zt 14 x y=some (x*y):=rfl
theorem Py(x y:Int):Zt 15 x y=if y=0 then none else some (x.tdiv y):=rfl
theorem pS{z:Int}(h:Zt tag x y=some z):GE tag x y=if r64 z then(iV z,0)else(zV,140):=by
 unfold GE;rw [h]
theorem Hq(h:Zt tag x y=none):GE tag x y=(zV,140):=by
 unfold GE;rw [h]
theorem IF{a:Int×Bool}{z:Int}(h1:a.2=decide (r64 z))(h2:r64 z→a.1=z):(if a.2=true then(iV a.1,(0:Int))else(zV,140))=if r64 z then(iV z,0)else(zV,140):=by
 by_cases h:r64 z
 ·rw [h1,xF h,aY rfl,aY h,h2 h]
 ·rw [h1,xG h,aK (by decide),aK h]
theorem WT(ht:tag=12∨tag=13∨tag=14∨tag=15)(hx:r64 x)(hy:r64 y):(if(Og tag x y).2=true then(iV (Og tag x y).1,(0:Int))else(zV,140))=GE tag x y:=by
 have hw: ∀z,r64 z→IntKind.i64.wrap z=z:=fun z h=>by unfold r64 at h;exact cv h.1 h.2
 rcases ht with rfl|rfl|rfl|rfl
 ·rw [pS (Xz x y)]
  exact IF (by rw [TM hx hy]) (fun h=>by rw [TM hx hy];exact hw _ h)
 ·rw [pS (Xy x y)]
  exact IF (by rw [RJ hx hy]) (fun h=>by rw [RJ hx hy];exact hw _ h)
 ·rw [pS (Xx x y)]
  exact IF (Sc hx hy).1 (Sc hx hy).2
 ·by_cases h0:y=0
  ·subst h0
   rw [Hq (by rw [Py,aY rfl])]
   rfl
  ·rw [pS (z:=x.tdiv y) (by rw [Py,aK h0])]
   exact IF (Te hx hy h0).1 (Te hx hy h0).2
end Go.Proofs.YtfhhakidodmdfaaGreatDoor

