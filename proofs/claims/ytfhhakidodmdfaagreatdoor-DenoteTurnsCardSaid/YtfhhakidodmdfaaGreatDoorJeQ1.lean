/- cT of this claim: K1, K2, K3, K4, L1, L2, L3, M1, M2, M3, M4, M5, M6, M7, M8, M9, M10. -/
import Derived.Test.YtfhhakidodmdfaaGreatDoorJeF
import Derived.KernelRfl
import Derived.Test.YtfhhakidodmdfaaGreatDoorJeV4
set_option linter.all false
namespace Go.Proofs.YtfhhakidodmdfaaGreatDoor
open Go

abbrev cA:=List ac
variable{n:bm}
theorem tL{n:Int}(h: -9223372036854775808≤n)(h2:n≤9223372036854775807):IntKind.i64.wrap n=n:=by
 rw [vu];omega
variable{α:Type}{xs:List α}
theorem bY{ys:List α}(h:xs.length+ys.length≤68719476736):app xs ys=some (xs++ys):=aX h
theorem Rw{i:Nat}:cR xs (i:Int)=(xs.drop i).head? :=by
 rw [bW,List.head?_drop]
def fF(v:ac):Bool:=(dH v).getD false
variable{v:ac}
theorem fQ(v:ac):dH v=some (fF v):=by
 unfold fF dH
 repeat' split
 all_goals rfl
variable{k:Nat}
theorem nG(v:ac):kR v=some (if fF v then 0 else 120):=by
 obtain⟨k,n,u,s⟩:=v
 unfold fF dH kR wX
 simp only [j8,pH,pG,pF]
 by_cases h0:k=0
 ·subst h0;simp
  repeat' split
  all_goals simp_all
 by_cases h1:k=1
 ·subst h1
  by_cases n0:n=0
  ·subst n0;simp
   repeat' split
   all_goals simp_all
  by_cases n1:n=1
  ·subst n1;simp
   repeat' split
   all_goals simp_all
  simp [n0,n1]
 by_cases h2:k=2
 ·subst h2;simp
  repeat' split
  all_goals simp_all
 by_cases h3:k=3
 ·subst h3;simp
  repeat' split
  all_goals simp_all
 by_cases h4:k=4
 ·subst h4;simp
  repeat' split
  all_goals simp_all
 simp [h0,h1,h2,h3,h4]
def ke(r:cA):Bool:=decide (r.length≤16)&&r.all fF
theorem Ej(v:ac):qW v=some (!fF v):=by
 unfold qW
 rw [nG]
 cases fF v<;>rfl
variable{f:α→α→Int}{l:List cA}{r:List ac}
theorem Cf{f:ac→Option Bool}{g:ac→Bool}(hf: ∀v,f v=some (g v))(l:cA):gb l f=some (l.any g):=by
 have key: ∀(l:cA) (i:Nat),(cI f l i).bind (fun r=>some (decide ((0:Int)≤r)))=some (l.any g):=by
  intro l
  induction l with
  |nil=>intro i;simp [cI]
  |cons e t ih=>intro i;simp only [cI,hf,ba];cases h:g e<;>simp [ih,h]
 exact key l 0
theorem vG(r:cA):sj r=some (ke r):=by
 unfold sj ke
 rw [Cf (g:=fun v=> !fF v) Ej]
 by_cases h:r.length≤16
 ·rw [aX (by simp;omega)]
  simp [h,List.all_eq_not_any_not]
 ·rw [aM (by simp;omega)]
  simp [h]
theorem Me{r:cA}(h:ke r=true):r.length≤16:=by
 unfold ke at h
 simp at h
 exact h.1

variable{a:ac}
theorem lu: ∀s:wF,Op.bytesLess s s=false
 |[]=>rfl
 |a::s=>by
  unfold Op.bytesLess
  simp [lu s]
def Xt:List Int→Int
 |[]=>0
 |e::t=>if e !=0 then e else Xt t
theorem B5(l:List Int):mK l=some (Xt l):=by
 unfold mK
 induction l with
 |nil=>rfl
 |cons e t ih=>simp only [fW,Xt];split<;>simp [*]
def val(x y:ac):Int:=(pj x y).getD 0
variable{x y:Int}
theorem Es(x y:ac):pj x y=some (val x y):=by
 unfold val pj qj
 repeat' split
 all_goals rfl
theorem OH(p y:Int):iD p y=some (if p<y then -1 else if y<p then 1 else 0):=by
 unfold iD nm
 simp
 repeat' split
 all_goals rfl
theorem G7(p y:Int):gw p y=some (if p<y then -1 else if y<p then 1 else 0):=by
 unfold gw kN
 simp
 repeat' split
 all_goals rfl
theorem G6(p y:Int):mL p y=some (if p<y then -1 else if y<p then 1 else 0):=by
 unfold mL ot
 simp
 repeat' split
 all_goals rfl
theorem OG(p y:wF):mM p y=some (if Op.bytesLess p y then -1 else if p=y then 0 else 1):=by
 unfold mM ou
 by_cases h:p=y
 ·subst h;simp [lu]
 ·cases h2:Op.bytesLess p y<;>simp [h]
theorem yY(x y:ac):o3 x y=some (val x y):=by
 unfold o3
 rw [OH,G7,G6,OG]
 simp only [ba]
 rw [B5]
 unfold val pj qj
 simp only [Xt,ba]
 by_cases h1:x.Kind=y.Kind
 ·rw [h1]
  by_cases h2:x.N=y.N
  ·rw [h2]
   by_cases h3:x.U=y.U
   ·rw [h3]
    by_cases h4:x.S=y.S
    ·rw [h4];simp [lu]
    ·cases h5:Op.bytesLess x.S y.S<;>simp [h4]
   ·rcases Int.lt_or_gt_of_ne h3 with h|h
    ·simp [h3,h]
    ·have: ¬x.U<y.U:=by omega
     simp [h3,h,this]
  ·rcases Int.lt_or_gt_of_ne h2 with h|h
   ·simp [h2,h]
   ·have: ¬x.N<y.N:=by omega
    simp [h2,h,this]
 ·rcases Int.lt_or_gt_of_ne h1 with h|h
  ·simp [h1,h]
  ·have: ¬x.Kind<y.Kind:=by omega
   simp [h1,h,this]
def eE:cA→cA→Int
 |[],[]=>0
 |[],_::_=> -1
 |_::_,[]=>1
 |x::a,y::b=>if val x y !=0 then val x y else eE a b
theorem FE(a b:cA):cr a b o3=some (eE a b):=by
 unfold cr
 have key: ∀(l:cA) (i:Nat),a.drop i=l→i≤a.length→bF a b o3 l i=some (eE l (b.drop i)):=by
  intro l
  induction l with
  |nil=>
   intro i h1 h2
   have h3:a.length≤i:=FJ.1 h1
   simp only [bF]
   by_cases hlt:a.length<b.length
   ·rw [aX (by simp;omega)]
    rw [wz (by omega:i<b.length)];rfl
   ·rw [aM (by simp;omega),Ae (by omega)];rfl
  |cons x t ih=>
   intro i h1 h2
   have hi:i<a.length:=by
    rcases mS i a.length with h|h
    ·exact h
    ·rw [Ae h]at h1;cases h1
   simp only [bF]
   have ht:=ih (i+1) (by rw [←pD,h1];rfl) (by omega)
   rcases mS i b.length with h|h
   ·rw [aM (by simp;omega),bW,ox h,wz h,ht]
    simp only [ba,yY,eE]
    split<;>rfl
   ·rw [aX (by simp;omega),Ae h];rfl
 exact key a 0 rfl (lw _)
theorem vH(a b:cA):pg a b=some (eE a b):=by
 unfold pg
 rw [FE a b];rfl
theorem Ek(a b:cA):ph a b=some (if ke a&&ke b then eE a b else 0):=by
 unfold ph
 rw [vG,vG,vH]
 cases ha:ke a<;>cases hb:ke b<;>simp
theorem rO(a b:cA):nc a b=some (decide (a=b)):=by
 unfold nc iN
 by_cases hl:a.length=b.length
 ·rw [aM (by simp [hl])]
  have key: ∀(l:cA) (i:Nat),a.drop i=l→dV b l i=some (decide (l=b.drop i)):=by
   intro l
   induction l with
   |nil=>
    intro i h1
    have h3:a.length≤i:=FJ.1 h1
    rw [Ae (by omega)];rfl
   |cons x t ih=>
    intro i h1
    have hi:i<a.length:=by
     rcases mS i a.length with h|h
     ·exact h
     ·rw [Ae h]at h1;cases h1
    have ht:=ih (i+1) (by rw [←pD,h1];rfl)
    simp only [dV]
    rw [bW,ox (by omega),wz (by omega:i<b.length)]
    simp only [ba,ht]
    by_cases hx:x=b[i]
    ·rw [aM (by simp [hx])]
     exact congrArg some (Ck.2 ⟨fun h=>by rw [hx,h],fun h=>(Cl h).2⟩)
    ·rw [aX (by simp [hx])]
     exact congrArg some (ww (fun h=>hx (Cl h).1)).symm
  have:=key a 0 rfl
  rw [this];simp
 ·rw [aX (by simp;omega)]
  have:a≠b:=fun e=>hl (by rw [e])
  simp [this]
theorem JG(p q:List cA):Ax p q=some (decide (p=q)):=by
 unfold Ax dY
 by_cases hl:p.length=q.length
 ·rw [aM (by simp [hl])]
  have key: ∀(l:List cA) (i:Nat),p.drop i=l→bX q nc l i=some (decide (l=q.drop i)):=by
   intro l
   induction l with
   |nil=>
    intro i h1
    have h3:p.length≤i:=FJ.1 h1
    rw [Ae (by omega)];rfl
   |cons x t ih=>
    intro i h1
    have hi:i<p.length:=by
     rcases mS i p.length with h|h
     ·exact h
     ·rw [Ae h]at h1;cases h1
    have ht:=ih (i+1) (by rw [←pD,h1];rfl)
    simp only [bX]
    rw [bW,ox (by omega),wz (by omega:i<q.length)]
    simp only [ba,ht,rO]
    by_cases hx:x=q[i]
    ·rw [aM (by simp [hx])]
     exact congrArg some (Ck.2 ⟨fun h=>by rw [hx,h],fun h=>(Cl h).2⟩)
    ·rw [aX (by simp [hx])]
     exact congrArg some (ww (fun h=>hx (Cl h).1)).symm
  have:=key p 0 rfl
  rw [this];simp
 ·rw [aX (by simp;omega)]
  have:p≠q:=fun e=>hl (by rw [e])
  simp [this]
theorem Ch(r:cA)(h:r.length≤68719476736):cy r=some r:=by
 unfold cy
 rw [bY (by simpa using h)];rfl
theorem y4(l:List cA)(h: ∀r∈l,r.length≤68719476736)(hl:l.length≤68719476736):sO l=some l:=by
 have key: ∀(m out:List cA),(∀r∈m,r.length≤68719476736)→out.length+m.length≤68719476736→nd m out=some (out++m):=by
  intro m
  induction m with
  |nil=>intro out _ _;simp [nd]
  |cons e t ih=>
   intro out h1 h2
   simp only [gX]at h2
   simp only [nd]
   rw [Ch e (h1 e (kE ..))]
   simp only [ba]
   rw [bY (by simp;omega)]
   simp only [ba]
   rw [ih _ (fun r hr=>h1 r (ky _ hr)) (by simp;omega)]
   simp
 have:=key l [] h (by simpa using hl)
 simpa [sO] using this

structure Cg{α:Type}(f:α→α→Int):Prop where
 rng: ∀x y,f x y= -1∨f x y=0∨f x y=1
 anti: ∀x y,f y x= -f x y
 eq: ∀x y,f x y=0↔x=y
 trans: ∀x y z,f x y≤0→f y z≤0→f x z≤0
theorem Cg.lt(h:Cg f){x y z:α}(h1:f x y≤0)(h2:f y z≤0)(h3:f x y<0∨f y z<0):f x z<0:=by
 have h4:=h.trans x y z h1 h2
 rcases h.rng x z with h5|h5|h5
 ·omega
 ·have e:=(h.eq x z).1 h5
  subst e
  have:=h.anti x y
  omega
 ·omega
def IZ(c d:Int):Int:=if c !=0 then c else d
theorem Cg.lex{β:Type}{g:β→β→Int}(hf:Cg f)(hg:Cg g):Cg (fun(p q:α×β)=>IZ (f p.1 q.1) (g p.2 q.2)) where
 rng:=fun x y=>by
  unfold IZ
  split
  ·exact hf.rng _ _
  ·exact hg.rng _ _
 anti:=fun x y=>by
  have h1:=hf.anti x.1 y.1
  have h2:=hg.anti x.2 y.2
  unfold IZ
  by_cases h:f x.1 y.1=0
  ·have:f y.1 x.1=0:=by omega
   simp [h,this,h2]
  ·have:f y.1 x.1≠0:=by omega
   simp [h,h1]
 eq:=fun x y=>by
  unfold IZ
  by_cases h:f x.1 y.1=0
  ·have e:=(hf.eq _ _).1 h
   simp only [h,yR,fZ,d9]
   rw [hg.eq]
   exact⟨fun h2=>Prod.ext e h2,fun h2=>by rw [h2]⟩
  ·simp only [qT,pE,h,Cq,eK,false_iff]
   intro e
   exact h ((hf.eq _ _).2 (by rw [e]))
 trans:=fun x y z=>by
  unfold IZ
  by_cases h1:f x.1 y.1=0
  ·have e:=(hf.eq _ _).1 h1
   simp only [h1,yR,fZ,d9]
   rw [←e]
   by_cases h2:f x.1 z.1=0
   ·simp only [h2,yR,fZ,d9]
    exact hg.trans _ _ _
   ·simp only [qT,pE,h2,Cq,eK]
    exact fun _ h=>h
  ·simp only [qT,pE,h1,Cq,eK]
   by_cases h2:f y.1 z.1=0
   ·have e:=(hf.eq _ _).1 h2
    have h5:f x.1 z.1≠0:=by rw [←e];exact h1
    simp only [h5,Cq,eK]
    intro h _
    rw [←e];exact h
   ·simp only [h2,Cq,eK]
    intro h3 h4
    have:=hf.lt h3 h4 (by omega)
    simp only [show f x.1 z.1≠0 from by omega,Cq,eK]
    omega
def KV(p y:Int):Int:=if p<y then -1 else if y<p then 1 else 0
theorem m5:Cg KV where
 rng:=fun x y=>by
  unfold KV
  repeat' split
  all_goals omega
 anti:=fun x y=>by unfold KV;repeat' split;all_goals omega
 eq:=fun x y=>by
  unfold KV
  constructor
  ·intro h;repeat' split at h
   all_goals omega
  ·intro h;subst h;simp
 trans:=fun x y z=>by
  unfold KV
  repeat' split
  all_goals omega
theorem zc: ∀a b:wF,Op.bytesLess a b=false→Op.bytesLess b a=false→a=b
 |[],[],_,_=>rfl
 |[],_::_,h,_=>by simp [Op.bytesLess]at h
 |_::_,[],_,h=>by simp [Op.bytesLess]at h
 |x::a,y::b,h,k=>by
  simp only [Op.bytesLess,Bool.or_eq_false_iff,FK,Bool.and_eq_false_imp,sx]at h k
  have e:x=y:=by
   have h1:=h.1
   have h2:=k.1
   exact UInt8.le_antisymm (UInt8.not_lt.1 h2) (UInt8.not_lt.1 h1)
  subst e
  rw [zc a b (h.2 rfl) (k.2 rfl)]
theorem rz: ∀a b c:wF,Op.bytesLess a b=true→Op.bytesLess b c=true→Op.bytesLess a c=true
 |_,[],_,h,_=>by cases ‹List UInt8› <;>simp [Op.bytesLess]at h
 |_,_::_,[],_,h=>by simp [Op.bytesLess]at h
 |[],_::_,_::_,_,_=>rfl
 |x::a,y::b,z::c,h,k=>by
  simp only [Op.bytesLess,p9,kI,lX,sx]at h k ⊢
  rcases h with h|⟨h1,h2⟩
  ·rcases k with k|⟨k1,_⟩
   ·exact .inl (UInt8.lt_trans h k)
   ·subst k1;exact .inl h
  ·subst h1
   rcases k with k|⟨k1,k2⟩
   ·exact .inl k
   ·exact .inr ⟨k1,rz a b c h2 k2⟩
def PW(p y:wF):Int:=if Op.bytesLess p y then -1 else if p=y then 0 else 1
theorem Fg{a b:wF}(h:Op.bytesLess a b=true):Op.bytesLess b a=false:=by
 cases k:Op.bytesLess b a with
 |false=>rfl
 |true=>have:=rz a b a h k;rw [lu]at this;cases this
theorem Bf:Cg PW where
 rng:=fun x y=>by
  unfold PW
  split
  ·exact .inl rfl
  split
  ·exact .inr (.inl rfl)
  ·exact .inr (.inr rfl)
 anti:=fun x y=>by
  unfold PW
  cases h:Op.bytesLess x y with
  |true=>
   have h2:=Fg h
   have:y≠x:=fun e=>by rw [e,lu]at h;cases h
   simp [h2,this]
  |false=>
   cases k:Op.bytesLess y x with
   |true=>
    have:x≠y:=fun e=>by rw [e,lu]at k;cases k
    simp [this]
   |false=>have:=zc x y h k;simp [this]
 eq:=fun x y=>by
  unfold PW
  constructor
  ·intro h;repeat' split at h
   all_goals simp_all
  ·intro h;subst h;simp [lu]
 trans:=fun x y z=>by
  unfold PW
  intro h1 h2
  cases hxy:Op.bytesLess x y with
  |true=>
   cases hyz:Op.bytesLess y z with
   |true=>simp [rz x y z hxy hyz]
   |false=>
    rw [hyz]at h2
    by_cases e:y=z
    ·subst e;simp [hxy]
    ·simp [e]at h2
  |false=>
   rw [hxy]at h1
   by_cases e:x=y
   ·subst e;exact h2
   ·simp [e]at h1
def key(v:ac):Int×Int×Int×wF:=(v.Kind,v.N,v.U,v.S)
theorem Zj(a b c d:Int):Xt [a,b,c,d]=IZ a (IZ b (IZ c d)):=by
 simp only [Xt,IZ]
 by_cases h:d=0
 ·simp [h]
 ·simp [h]
theorem sI(x y:ac):val x y=IZ (KV x.Kind y.Kind) (IZ (KV x.N y.N) (IZ (KV x.U y.U) (PW x.S y.S))):=by
 have h:=yY x y
 unfold o3 at h
 rw [OH,G7,G6,OG]at h
 simp only [ba]at h
 rw [B5]at h
 simp only [ba,yS]at h
 rw [←h,Zj]
 rfl
theorem rK:Cg val where
 rng:=fun x y=>by rw [sI];exact(m5.lex (m5.lex (m5.lex Bf))).rng (key x) (key y)
 anti:=fun x y=>by rw [sI,sI];exact(m5.lex (m5.lex (m5.lex Bf))).anti (key x) (key y)
 eq:=fun x y=>by
  rw [sI]
  refine((m5.lex (m5.lex (m5.lex Bf))).eq (key x) (key y)).trans ⟨fun h=>?_,fun h=>by rw [h]⟩
  cases x;cases y
  simp only [key,Prod.mk.injEq]at h
  simp [h]
 trans:=fun x y z=>by rw [sI,sI,sI];exact(m5.lex (m5.lex (m5.lex Bf))).trans (key x) (key y) (key z)
theorem ik:Cg eE where
 rng:=by
  intro x
  induction x with
  |nil=>intro y;cases y<;>simp [eE]
  |cons a x ih=>
   intro y
   cases y with
   |nil=>simp [eE]
   |cons b y=>
    simp only [eE]
    split
    ·exact rK.rng a b
    ·exact ih y
 anti:=by
  intro x
  induction x with
  |nil=>intro y;cases y<;>simp [eE]
  |cons a x ih=>
   intro y
   cases y with
   |nil=>simp [eE]
   |cons b y=>
    simp only [eE]
    have h:=rK.anti a b
    by_cases h1:val a b=0
    ·have h2:val b a=0:=by omega
     simp [h1,h2,ih y]
    ·have h2:val b a≠0:=by omega
     simp [h1,h]
 eq:=by
  intro x
  induction x with
  |nil=>intro y;cases y<;>simp [eE]
  |cons a x ih=>
   intro y
   cases y with
   |nil=>simp [eE]
   |cons b y=>
    simp only [eE]
    by_cases h1:val a b=0
    ·have e:=(rK.eq a b).1 h1
     subst e
     simp [h1,ih y]
    ·have e:a≠b:=fun e=>h1 ((rK.eq a b).2 e)
     simp [h1,e]
 trans:=by
  intro x
  induction x with
  |nil=>intro y z;cases y<;>cases z<;>simp [eE]
  |cons a x ih=>
   intro y z
   cases y with
   |nil=>simp [eE]
   |cons b y=>
    cases z with
    |nil=>simp [eE]
    |cons c z=>
     simp only [eE]
     by_cases h1:val a b=0
     ·have e:=(rK.eq a b).1 h1
      subst e
      by_cases h2:val a c=0
      ·simp [h1,h2];exact ih y z
      ·simp [h1,h2]
     ·by_cases h2:val b c=0
      ·have e:=(rK.eq b c).1 h2
       subst e
       simp only [h1,h2,qT,pE,Cq,eK]
       simp only [I2,d9]
       exact fun h _=>h
      ·simp only [h1,h2,qT,pE,Cq,eK]
       intro h3 h4
       have:=rK.lt h3 h4 (by omega)
       rw [aX (by omega)]
       omega

section
def SX(f:α→α→Int)(x y:α):Bool:=decide (f x y<0)
theorem Cg.self(h:Cg f)(x:α):f x x=0:=(h.eq x x).2 rfl
def sd(f:α→α→Int)(l:List α):Prop:=l.Pairwise (fun a b=>f a b≤0)
theorem ut(h:Cg f){a b:List α}(ha:sd f a)(hb:sd f b)(hp:a.Perm b):a=b:=
 List.Perm.eq_of_pairwise (le:=fun x y=>f x y≤0) (fun x y _ _ h1 h2=>(h.eq x y).1 (by have:=h.anti x y;omega)) ha hb hp
theorem xK(h:Cg f){c:α×α→Option Int}(hc: ∀x y,c (x,y)=some (f x y)){l:List α}(hl:l.length≤1099511627776):z6 c l:=by
 have hlt: ∀x y,uA c x y=SX f x y:=fun x y=>by unfold uA SX;rw [hc]
 refine⟨hl,fun x _ y _=>by rw [hc];rfl,fun x _=>by rw [hlt];unfold SX;rw [h.self];rfl,fun x _ y _ z _ h1 h2=>?_,fun x _ y _ h1 h2=>?_⟩
 ·rw [hlt]at*
  unfold SX at*
  have h1' :=I6 h1
  have h2' :=I6 h2
  exact wH (h.lt (by omega) (by omega) (.inl h1'))
 ·rw [hlt]at*
  unfold SX at*
  have h1' :=of_decide_eq_false h1
  have h2' :=of_decide_eq_false h2
  have:=h.anti x y
  exact(h.eq x y).1 (by omega)
def rC(f:α→α→Int)(l:List α):List α:=y8 (SX f) l
theorem lD(f:α→α→Int)(l:List α):(rC f l).Perm l:=s6 _ l
theorem sL(h:Cg f)(l:List α)(hl:l.length≤1099511627776):sd f (rC f l):=by
 have hg:=xK h (c:=fun p=>some (f p.1 p.2)) (fun _ _=>rfl) hl
 have:=vP hg l (fun y hy=>hy)
 have e:uA (fun p:α×α=>some (f p.1 p.2))=SX f:=by funext x y;rfl
 rw [e]at this
 refine this.imp fun{a b} hab=>?_
 unfold SX at hab
 have h1:=of_decide_eq_false hab
 have:=h.anti b a
 omega
theorem Pi [DecidableEq α](h:Cg f){c:α×α→Option Int}(hc: ∀x y,c (x,y)=some (f x y)){l:List α}(hl:l.length≤1099511627776):yX c l=some (rC f l):=by
 rw [D1 (xK h hc hl)]
 have e:uA c=SX f:=by funext x y;unfold uA SX;rw [hc]
 rw [e];rfl
def put(f:α→α→Int)(x:α):List α→List α
 |[]=>[x]
 |y::l=>if f x y<0 then x::y::l else y::put f x l
theorem Jv(h:Cg f){a b:List α}(hp:a.Perm b)(ha:a.length≤1099511627776):rC f a=rC f b:=
 ut h (sL h a ha) (sL h b (by rw [←hp.length_eq];exact ha)) ((lD f a).trans (hp.trans (lD f b).symm))
theorem xQ(f:α→α→Int)(l:List α):(rC f l).length=l.length:=(lD f l).length_eq
end
def th{α:Type} [DecidableEq α]:α→List α→List α
 |_,[]=>[]
 |p,x::t=>if x=p then th x t else x::th x t
theorem Bd [DecidableEq α](p:α):th p []=[]:=by unfold th;rfl
theorem yn [DecidableEq α]{p x:α}(h:x=p)(t:List α):th p (x::t)=th x t:=by
 conv=>lhs;unfold th
 rw [aX h]
theorem Du [DecidableEq α]{p x:α}(h: ¬x=p)(t:List α):th p (x::t)=x::th x t:=by
 conv=>lhs;unfold th
 rw [aM h]
def qe{α:Type} [DecidableEq α]:List α→List α
 |[]=>[]
 |x::t=>x::th x t
theorem KS{α:Type} [DecidableEq α]: ∀(p:α) (l:List α),(th p l).length≤l.length
 |_,[]=>dn _
 |p,x::t=>by
  unfold th
  have:=KS x t
  split<;>simp<;>omega
theorem PU [DecidableEq α](l:List α):(qe l).length≤l.length:=by
 cases l with
 |nil=>exact dn _
 |cons x t=>have:=KS x t;simp [qe];omega
theorem Fc{α:Type} [DecidableEq α]: ∀(p:α) (l:List α) (z:α),z∈th p l→z∈l
 |p,x::t,z,h=>by
  unfold th at h
  split at h
  ·exact ky _ (Fc x t z h)
  ·rcases fh.1 h with rfl|h
   ·exact kE ..
   ·exact ky _ (Fc x t z h)
theorem EL{α:Type} [DecidableEq α]: ∀(p:α) (l:List α) (z:α),z∈l→z=p∨z∈th p l
 |p,x::t,z,h=>by
  unfold th
  by_cases hx:x=p
  ·rw [aX hx]
   rcases fh.1 h with rfl|h
   ·exact .inl hx
   ·rcases EL x t z h with h|h
    ·exact .inl (h.trans hx)
    ·exact .inr h
  ·rw [aM hx]
   rcases fh.1 h with rfl|h
   ·exact .inr (kE ..)
   ·rcases EL x t z h with h|h
    ·exact .inr (by rw [h];exact kE ..)
    ·exact .inr (ky _ h)
theorem u8 [DecidableEq α](l:List α)(z:α):z∈qe l↔z∈l:=by
 cases l with
 |nil=>exact Iff.rfl
 |cons x t=>
  constructor
  ·intro h
   rcases fh.1 h with rfl|h
   ·exact kE ..
   ·exact ky _ (Fc x t z h)
  ·intro h
   rcases fh.1 h with rfl|h
   ·exact kE ..
   ·rcases EL x t z h with rfl|h
    ·exact kE ..
    ·exact ky _ h
theorem xC{α:Type} [DecidableEq α]{f:α→α→Int}(hf:Cg f): ∀(p:α) (l:List α),sd f (p::l)→(p::th p l).Pairwise (fun a b=>f a b<0)
 |p,[],_=>List.pairwise_singleton _ _
 |p,x::t,h=>by
  have h1:=Bt.1 h
  unfold th
  by_cases hx:x=p
  ·rw [aX hx]
   subst hx
   exact xC hf x t h1.2
  ·rw [aM hx]
   have h2:=xC hf x t h1.2
   have hlt:f p x<0:=by
    have:=h1.1 x (kE ..)
    rcases Int.lt_or_eq_of_le this with h|h
    ·exact h
    ·exact absurd ((hf.eq p x).1 h).symm hx
   refine Bt.2 ⟨fun z hz=>?_,h2⟩
   rcases fh.1 hz with rfl|hz
   ·exact hlt
   ·exact hf.lt (by omega) (by have:=(Bt.1 h2).1 z hz;omega) (.inl hlt)
theorem IJ [DecidableEq α](hf:Cg f){l:List α}(h:sd f l):(qe l).Pairwise (fun a b=>f a b<0):=by
 cases l with
 |nil=>exact List.Pairwise.nil
 |cons x t=>exact xC hf x t h

abbrev abR:=ik
def Wc(n:Nat):Int:=if 8000<n then 3 else 0
def TO:List (List cA)→Nat→Nat
 |[],n=>n
 |l::t,n=>TO t (max n l.length)
def vk(l:List cA):Bool:=l.all ke
def YT(ls:List (List cA)):Int:=if ls.all vk then Wc (TO ls 0)else 150
theorem vI(ls:List (List cA)):uU ls=some (YT ls):=by
 have key2: ∀(l:List cA) (nx:Int→Option Int) (e:List cA) (n:Int),pK nx e n l=if vk l then nx (max n (e.length:Int))else some 150:=by
  intro l
  induction l with
  |nil=>intro nx e n;rfl
  |cons r t ih=>
   intro nx e n
   have ih' :=ih nx e n
   unfold pK
   rw [vG]
   simp only [ba]
   rw [ih']
   unfold vk
   cases h:ke r<;>simp [h]
 have key: ∀(ls:List (List cA)) (n:Nat),kW ls (n:Int)=some (if ls.all vk then Wc (TO ls n)else 150):=by
  intro ls
  induction ls with
  |nil=>
   intro n
   show kW [] (n:Int)=some (Wc n)
   unfold kW Wc
   by_cases h:8000<n
   ·rw [aX (by simp;omega),aX h]
   ·rw [aM (by simp;omega),aM h]
  |cons l t ih=>
   intro n
   unfold kW
   rw [key2,show max (n:Int) (l.length:Int)=((max n l.length:Nat):Int)from by omega,ih]
   show _=some (if(vk l&&t.all vk)=true then Wc (TO t (max n l.length))else 150)
   cases h:vk l<;>simp
 exact key ls 0
theorem Rk{n:Nat}(h:n≤8000):Wc n=0:=by unfold Wc;rw [aM (by omega)]
theorem HA(l:List cA)(h:l.length≤8000):YT [l]=if vk l then 0 else 150:=by
 show(if(vk l&&true)=true then Wc (max 0 l.length)else 150)=_
 rw [Rk (by omega),yQ]
structure Hc(l:List cA):Prop where
 len:l.length≤8000
 row: ∀r∈l,r.length≤1000
abbrev wA(l:List cA):List cA:=rC eE l
theorem yZ(h:Hc l):sN l=some (wA l):=by
 unfold sN
 rw [y4 l (fun r hr=>by have:=h.row r hr;omega) (by have:=h.len;omega)]
 simp only [ba]
 rw [Pi abR (fun x y=>vH x y) (by have:=h.len;omega)]
 rfl
theorem FS(h:Hc l):vJ l=some (if vk l then(wA l,0)else([],150)):=by
 unfold vJ
 rw [vI,HA l h.len,yZ h]
 cases vk l<;>rfl
theorem cv{n:Int}(h: -9223372036854775808≤n)(h2:n≤9223372036854775807):IntKind.i64.wrap n=n:=by rw [vu];omega
theorem lE{l m:Nat}(h:l≤m)(h2:m≤xs.length):dj xs (l:Int) (m:Int)=some ((xs.take m).drop l):=by
 unfold dj
 rw [aX (by omega)]
 simp
theorem MW(p:List cA)(hp:p.length≤8000)(i:Nat)(y:List cA)(hy:i+y.length=p.length): ∀(k i1:Nat) (x:List cA) (x1:Nat),i1+k=y.length→0<i1→x.length=p.length→x1+1≤i+i1→x.drop (i+i1-1)=p.drop (i+i1-1)→
  cg nc i y k i1 x (x1:Int)=some (x.take x1++th ((p[i+i1-1]?).getD []) (p.drop (i+i1))):=by
 intro k
 induction k with
 |zero=>
  intro i1 x x1 h1 h0 hx h2 h3
  simp only [cg]
  have hx1:x1≤x.length:=by omega
  rw [lE hx1 (dn _)]
  simp only [ba,wS,Ac]
  rw [show((0:Int))=((0:Nat):Int)from rfl,lE (lw _) (by simp;omega)]
  simp only [ba,yC]
  have hn:p.drop (i+i1)=[]:=Ae (by omega)
  rw [hn,Bd,sy,CY (by simp;omega),Br,Nat.min_self]
 |succ k ih=>
  intro i1 x x1 h1 h0 hx h2 h3
  have e1:x[i+i1]? =p[i+i1]? :=by
   have:=congrArg (fun l:List cA=>l[1]?) h3
   simp only [wM]at this
   rwa [show i+i1-1+1=i+i1 from by omega]at this
  have e0:x[i+i1-1]? =p[i+i1-1]? :=by
   have:=congrArg (fun l:List cA=>l[0]?) h3
   simpa only [wM,wG] using this
  have hlt:i+i1<p.length:=by omega
  have g1:xr x (i:Int) y.length (i1:Int)=some p[i+i1]:=by
   unfold xr
   rw [aX (by omega),show(i:Int)+(i1:Int)=((i+i1:Nat):Int)from by omega,bW,e1,ox hlt]
  have g0:xr x (i:Int) y.length (IntKind.i64.wrap ((i1:Int)-1))=some p[i+i1-1]:=by
   rw [cv (by omega) (by omega)]
   unfold xr
   rw [aX (by omega),show(i:Int)+((i1:Int)-1)=((i+i1-1:Nat):Int)from by omega,bW,e0,ox (by omega)]
  have hd:p.drop (i+i1)=p[i+i1]::p.drop (i+i1+1):=wz hlt
  have hp1:(p[i+i1-1]?).getD []=p[i+i1-1]:=by rw [ox (by omega)];rfl
  simp only [cg,g1,g0,ba,rO]
  rw [hd,hp1]
  by_cases hx2:p[i+i1]=p[i+i1-1]
  ·rw [aM (by simp [hx2])]
   have h3' :x.drop (i+(i1+1)-1)=p.drop (i+(i1+1)-1):=by
    have:=congrArg (List.drop 1) h3
    rwa [pD,pD,show i+i1-1+1=i+(i1+1)-1 from by omega]at this
   rw [ih (i1+1) x x1 (by omega) (by omega) hx (by omega) h3']
   rw [yn hx2,show i+(i1+1)-1=i+i1 from by omega,ox hlt,show i+(i1+1)=i+i1+1 from by omega]
   rfl
  ·rw [aX (by simp [hx2]),bW,ox (by omega)]
   simp only [ba,Ac]
   rw [cv (by omega) (by omega),show((x1:Int)+1)=((x1+1:Nat):Int)from by omega]
   have h3' :(x.set x1 p[i+i1]).drop (i+(i1+1)-1)=p.drop (i+(i1+1)-1):=by
    rw [List.drop_set_of_lt (by omega)]
    have:=congrArg (List.drop 1) h3
    rwa [pD,pD,show i+i1-1+1=i+(i1+1)-1 from by omega]at this
   rw [ih (i1+1) _ (x1+1) (by omega) (by omega) (by simpa using hx) (by omega) h3']
   rw [Du hx2,show i+(i1+1)-1=i+i1 from by omega,ox hlt,show i+(i1+1)=i+i1+1 from by omega]
   have ht:(x.set x1 p[i+i1]).take (x1+1)=x.take x1++[p[i+i1]]:=by
    rw [Ja (by simp;omega),List.take_set_of_le (by omega)]
    simp
   rw [ht]
   simp
theorem MX(p:List cA)(hp:p.length≤8000):eQ p nc=some (qe p):=by
 unfold eQ
 by_cases h2:p.length<2
 ·rw [aX (by simp;omega)]
  match p,h2 with
  |[],_=>rfl
  |[x],_=>rfl
 ·rw [aM (by simp;omega)]
  have key: ∀(l:List cA) (i:Nat),p.drop i=l→0<i→i≤p.length→qe p=p.take i++th ((p[i-1]?).getD []) (p.drop i)→cJ p nc l i=some (qe p):=by
   intro l
   induction l with
   |nil=>
    intro i h1 h0 hle h3
    have:=FJ.1 h1
    simp only [cJ]
    rw [h3,h1,rF (by omega),Bd,sy]
   |cons x t ih=>
    intro i h1 h0 hle h3
    have hi:i<p.length:=by
     rcases mS i p.length with h|h
     ·exact h
     ·rw [Ae h]at h1;cases h1
    have hx:x=p[i]:=by rw [wz hi]at h1;exact(Cl h1).1.symm
    have ht:p.drop (i+1)=t:=by rw [←pD,h1];rfl
    have hp1:(p[i-1]?).getD []=p[i-1]:=by rw [ox (by omega)];rfl
    simp only [cJ]
    rw [cv (by omega) (by omega),show(i:Int)-1=((i-1:Nat):Int)from by omega,bW,ox (by omega)]
    simp only [ba,rO]
    by_cases he:x=p[i-1]
    ·rw [aX (by simp [he])]
     rw [lE hle (dn _)]
     simp only [ba,wS]
     rw [MW p hp i (p.drop i) (by simp;omega) _ 1 p i (by simp;omega) (by omega) rfl (by omega) (by simp)]
     rw [h3,h1,hp1,yn he,←ht,hx]
     rw [show i+1-1=i from by omega,ox hi];rfl
    ·rw [aM (by simp [he])]
     refine ih (i+1) ht (by omega) (by omega) ?_
     rw [h3,h1,hp1,Du he,Ja hi,←ht,hx,show i+1-1=i from by omega,ox hi]
     rw [jK];rfl
  have hpc:p=p[0]::p.drop 1:=by
   have:=wz (l:=p) (i:=0) (by omega)
   simpa using this
  refine key (p.drop 1) 1 rfl (by omega) (by omega) ?_
  have e:(p[1-1]?).getD []=p[0]:=by simp [ox (show 0<p.length by omega)]
  rw [e]
  conv=>lhs;rw [hpc]
  have e2:p.take 1=[p[0]]:=by
   conv=>lhs;rw [hpc]
   rfl
  rw [e2];rfl
theorem C2(h:Hc l):rP l=some (if vk l then(qe (wA l),0)else([],150)):=by
 unfold rP
 rw [vI,HA l h.len,yZ h]
 simp only [ba]
 rw [MX _ (by rw [xQ];exact h.len)]
 cases vk l<;>rfl

theorem VU(n:Int)(h0:0≤n)(h:n≤68719476736):gW n=some []:=by
 unfold gW iM
 rw [aM (by simp;omega)]
 have e:IntKind.i64.wrap (n-IntKind.i64.wrap ((0:Int)-0))=n:=by
  rw [cv (n:=(0:Int)-0) (by omega) (by omega),cv (by omega) (by omega)];omega
 rw [e]
 by_cases hp:0<n
 ·rw [aX (by simpa using hp)]
  unfold Wf nD
  rw [aX hp]
  simp only [ba]
  rw [aX ⟨h0,h⟩]
  simp only [ba]
  rw [show dj (List.replicate n.toNat ([]:cA)) 0 0=some []from by unfold dj;rw [aX (by simp;omega)];simp]
  rfl
 ·rw [aM (by simpa using hp)];rfl
theorem No(a b:List cA)(ha:a.length≤8000)(hb:b.length≤8000):eG [a,b]=some (a++b):=by
 unfold eG
 simp only [fx]
 rw [cv (n:=(0:Int)+(a.length:Int)) (by omega) (by omega),aM (by simp),cv (by omega) (by omega),aM (by simp;omega),VU _ (by omega) (by omega)]
 simp only [ba,ft]
 rw [bY (by simp;omega)]
 simp only [ba,kz]
 rw [bY (by omega)]
 rfl

theorem iO{i j:Int}(l m:Nat)(hi:i=(l:Int))(hj:j=(m:Int))(h:l≤m)(h2:m≤xs.length):dj xs i j=some ((xs.take m).drop l):=by
 subst hi hj;exact lE h h2
theorem gJ{i:Int}(k:Nat)(hi:i=(k:Int)):cR xs i=xs[k]? :=by subst hi;exact bW _ _
def mA(v:ac):Bool:=fF v&&(v.Kind !=4)
theorem sH(v:ac):ma v=some (mA v):=by
 unfold ma mA
 rw [nG]
 cases fF v<;>simp
theorem je(v:ac):md v=some (mA v):=by
 unfold md mA
 rw [fQ]
 rfl
theorem JT(h:mA v=true):0≤v.Kind∧v.Kind≤3:=by
 obtain⟨k,n,u,s⟩:=v
 unfold mA fF dH at h
 simp only [lX,qT,pE]at h
 obtain⟨h1,h2⟩:=h
 by_cases h0:k=0
 ·simp [h0]
 by_cases k1:k=1
 ·simp [k1]
 by_cases k2:k=2
 ·simp [k2]
 by_cases k3:k=3
 ·simp [k3]
 simp [h0,k1,k2,k3,h2]at h1
def pk(tag:Int):Option Nat:=if tag=1∨tag=2 then some 0 else if 4≤tag∧tag≤7 then some 1 else if 12≤tag∧tag≤23 then some 2 else none
def H3(tag:Int):Int:=match pk tag with
 |some k=>(k:Int)
 |none=> -1
variable{tag:Int}
theorem za(tag:Int):o9 tag=some (H3 tag):=by
 unfold o9 H3 pk
 by_cases h1:tag=1∨tag=2
 ·rw [aX h1,aX (by simpa using h1)];rfl
 rw [aM h1,aM (by simpa using h1)]
 by_cases h2:4≤tag∧tag≤7
 ·rw [aX h2,aX (by simpa using h2)];rfl
 rw [aM h2,aM (by simpa using h2)]
 by_cases h3:12≤tag∧tag≤23
 ·rw [aX h3,aX (by simpa using h3)];rfl
 rw [aM h3,aM (by simpa using h3)]
theorem pM(tag:Int):xf tag=some (H3 tag):=by
 unfold xf CA H3 pk
 by_cases h1:tag=1∨tag=2
 ·rw [aX h1];rcases h1 with rfl|rfl<;>rfl
 rw [aM h1]
 by_cases h2:4≤tag∧tag≤7
 ·rw [aX h2]
  have:tag=4∨tag=5∨tag=6∨tag=7:=by omega
  rcases this with rfl|rfl|rfl|rfl<;>rfl
 rw [aM h2]
 by_cases h3:12≤tag∧tag≤23
 ·rw [aX h3,aM (by simp;omega),aM (by simp;omega),aM (by simp;omega),aM (by simp;omega)];rfl
 rw [aM h3]
 by_cases h4:tag=3∨(8≤tag∧tag≤11)
 ·rw [aX (by simpa using h4)]
 rw [aM (by simpa using h4),aX (by simp;omega)]
 rfl
def IY(n:bm):Bool:=(mw n).getD false
theorem jy(n:bm):mw n=some (IY n):=by
 unfold IY mw
 rw [je]
 split
 ·rfl
 ·split<;>rfl
theorem E5(n:bm):ue n=some (IY n):=by
 rw [←jy]
 unfold ue mw
 rw [je,sH]
inductive Tr where
 |lf (n:bm)
 |un (n:bm) (a:Tr)
 |bi (n:bm) (a b:Tr)
 deriving Inhabited
def Tr.size:Tr→Nat
 | .lf _=>1
 | .un _ a=>a.size+1
 | .bi _ a b=>a.size+b.size+1
def gQ(n:bm)(l r:Int):bm:={n with L:=l,R:=r}
def Tr.flat:Tr→Nat→List bm
 | .lf n,_=>[gQ n (-1) (-1)]
 | .un n a,s=>a.flat s++[gQ n ((s+a.size:Nat)-1) (-1)]
 | .bi n a b,s=>a.flat s++b.flat (s+a.size)++[gQ n ((s+a.size:Nat)-1) ((s+a.size+b.size:Nat)-1)]
def Xz(k:Nat)(n:bm):Prop:=pk n.Tag=some k∧IY n=true∧n.L= -1∧n.R= -1
def Tr.wf:Tr→Prop
 | .lf n=>Xz 0 n
 | .un n a=>Xz 1 n∧a.wf
 | .bi n a b=>Xz 2 n∧a.wf∧b.wf
theorem Tr.size_pos(t:Tr):0<t.size:=by cases t<;>simp [Tr.size]
theorem Tr.flat_len(t:Tr): ∀s,(t.flat s).length=t.size:=by
 induction t with
 |lf n=>intro s;rfl
 |un n a ih=>intro s;simp [Tr.flat,Tr.size,ih]
 |bi n a b iha ihb=>intro s;simp [Tr.flat,Tr.size,iha,ihb];omega
def cd:List Tr→Nat
 |[]=>0
 |t::st=>cd st+t.size
def wo:List Tr→List bm
 |[]=>[]
 |t::st=>wo st++t.flat (cd st)
theorem GW: ∀st:List Tr,(wo st).length=cd st
 |[]=>rfl
 |t::st=>by simp [wo,cd,GW st,t.flat_len]
theorem Gw: ∀st:List Tr,st.length≤cd st
 |[]=>dn _
 |t::st=>by have:=Gw st;have:=t.size_pos;simp [cd];omega
def push(st:List Tr)(n:bm):Option (List Tr):=
 match pk n.Tag,st with
 |some 0,st=>if IY n&&n.L== -1&&n.R== -1 then some (.lf (gQ n (-1) (-1))::st)else none
 |some 1,a::st=>if IY n&&n.L==((cd st+a.size:Nat):Int)-1&&n.R== -1 then some (.un (gQ n (-1) (-1)) a::st)else none
 |some 2,b::a::st=>if IY n&&n.L==((cd st+a.size:Nat):Int)-1&&n.R==((cd st+a.size+b.size:Nat):Int)-1 then some (.bi (gQ n (-1) (-1)) a b::st)else none
 |_,_=>none
def pm:List bm→List Tr→Option (List Tr)
 |[],st=>some st
 |n::ns,st=>(push st n).bind (pm ns)
def wfs(st:List Tr):Prop:= ∀t∈st,t.wf
theorem ya{l r:Int}(h:n.L=l)(h2:n.R=r):gQ (gQ n (-1) (-1)) l r=n:=by subst h h2;rfl
theorem Pr{st st' :List Tr}(h:push st n=some st')(hw:wfs st):wo st' =wo st++[n]∧cd st' =cd st+1∧wfs st' :=by
 unfold push at h
 split at h
 ·rename_i k st0 hk
  split at h
  ·rename_i hc
   simp only [lX,sx]at hc
   obtain⟨⟨h1,h2⟩,h3⟩:=hc
   cases h
   refine⟨?_,rfl,fun t ht=>?_⟩
   ·simp only [wo,Tr.flat]
    rw [ya h2 h3]
   ·rcases fh.1 ht with rfl|ht
    ·exact⟨hk,h1,rfl,rfl⟩
    ·exact hw t ht
  ·cases h
 ·rename_i k a st0 hk
  split at h
  ·rename_i hc
   simp only [lX,sx]at hc
   obtain⟨⟨h1,h2⟩,h3⟩:=hc
   cases h
   refine⟨?_,by simp [cd,Tr.size];omega,fun t ht=>?_⟩
   ·simp only [wo,Tr.flat]
    rw [ya h2 h3,jK]
   ·rcases fh.1 ht with rfl|ht
    ·exact⟨⟨hk,h1,rfl,rfl⟩,hw a (kE ..)⟩
    ·exact hw t (ky _ ht)
  ·cases h
 ·rename_i k b a st0 hk
  split at h
  ·rename_i hc
   simp only [lX,sx]at hc
   obtain⟨⟨h1,h2⟩,h3⟩:=hc
   cases h
   refine⟨?_,by simp [cd,Tr.size];omega,fun t ht=>?_⟩
   ·simp only [wo,Tr.flat,cd]
    rw [ya h2 h3]
    simp only [jK]
   ·rcases fh.1 ht with rfl|ht
    ·exact⟨⟨hk,h1,rfl,rfl⟩,hw a (ky _ (kE ..)),hw b (kE ..)⟩
    ·exact hw t (ky _ (ky _ ht))
  ·cases h
 ·cases h
variable{ns:List bm}
theorem zF: ∀{ns:List bm} {st st' :List Tr},pm ns st=some st' →wfs st→wo st' =wo st++ns∧wfs st'
 |[],st,st',h,hw=>by cases h;simp [hw]
 |n::ns,st,st',h,hw=>by
  unfold pm at h
  cases hp:push st n with
  |none=>rw [hp]at h;cases h
  |some st1=>
   rw [hp]at h
   obtain⟨h1,_,h3⟩:=Pr hp hw
   obtain⟨h4,h5⟩:=zF (ns:=ns) h h3
   exact⟨by rw [h4,h1];simp,h5⟩
theorem rU: ∀(ns ms:List bm) (st:List Tr),pm (ns++ms) st=(pm ns st).bind (pm ms)
 |[],ms,st=>rfl
 |n::ns,ms,st=>by
  simp only [wI,pm]
  cases push st n with
  |none=>rfl
  |some st1=>exact rU ns ms st1
theorem Mj(t:Tr): ∀(st:List Tr),t.wf→pm (t.flat (cd st)) st=some (t::st):=by
 induction t with
 |lf n=>
  intro st ⟨h1,h2,h3,h4⟩
  have hn' :gQ n (-1) (-1)=n:=by cases n;simp only at h3 h4;subst h3 h4;rfl
  simp only [Tr.flat,pm,push,hn']
  rw [h1]
  simp [h2,h3,h4,pm,hn']
 |un n a ih=>
  intro st ⟨⟨h1,h2,h3,h4⟩,ha⟩
  have hn' :gQ n (-1) (-1)=n:=by cases n;simp only at h3 h4;subst h3 h4;rfl
  simp only [Tr.flat]
  rw [rU,ih st ha]
  simp only [ba,pm,push]
  have e1:(gQ n (((cd st+a.size:Nat):Int)-1) (-1)).Tag=n.Tag:=rfl
  rw [e1,h1]
  have e2:IY (gQ n (((cd st+a.size:Nat):Int)-1) (-1))=true:=h2
  rw [e2]
  simp only [gQ,Gi,Bool.and_self,eK,ba,pm]
  simp only [gQ]at hn'
  rw [hn']
 |bi n a b iha ihb=>
  intro st ⟨⟨h1,h2,h3,h4⟩,ha,hb⟩
  have hn' :gQ n (-1) (-1)=n:=by cases n;simp only at h3 h4;subst h3 h4;rfl
  simp only [Tr.flat]
  rw [rU,rU,iha st ha]
  simp only [ba]
  have e0:cd st+a.size=cd (a::st):=rfl
  rw [e0,ihb (a::st) hb]
  simp only [ba,pm,push]
  have e1:(gQ n (((cd (a::st):Nat):Int)-1) (((cd (a::st)+b.size:Nat):Int)-1)).Tag=n.Tag:=rfl
  rw [e1,h1]
  have e2:IY (gQ n (((cd (a::st):Nat):Int)-1) (((cd (a::st)+b.size:Nat):Int)-1))=true:=h2
  rw [e2]
  simp only [gQ,cd,Gi,Bool.and_self,eK,ba,pm]
  simp only [gQ]at hn'
  rw [hn']
def mn(ns:List bm):Option Tr:=match pm ns []with
 |some [t]=>if ns.length≤1000 then some t else none
 |_=>none
theorem jT{t:Tr}(h:mn ns=some t):t.wf∧ns=t.flat 0∧t.size≤1000:=by
 unfold mn at h
 split at h
 ·rename_i t0 hp
  split at h
  ·rename_i hl
   cases h
   obtain⟨h1,h2⟩:=zF hp (fun t ht=>by cases ht)
   simp only [wo,cd,kz]at h1
   exact⟨h2 t (kE ..),h1.symm,by rw [←t.flat_len 0,h1];exact hl⟩
  ·cases h
 ·cases h
theorem Jo{t:Tr}(h:t.wf)(hs:t.size≤1000):mn (t.flat 0)=some t:=by
 unfold mn
 have h0:=Mj t [] h
 simp only [cd]at h0
 rw [h0]
 simp only [t.flat_len,hs,eK]
def fl:Tr→Nat→List Int
 | .lf _,s=>[(s:Int)]
 | .un _ a,s=>fl a s++[(s:Int)]
 | .bi _ a b,s=>fl a s++fl b (s+a.size)++[(s:Int)]
def PH:List Tr→List Int
 |[]=>[]
 |t::st=>PH st++fl t (cd st)
def mu:List Tr→List Int
 |[]=>[]
 |t::st=>mu st++[((cd st+t.size:Nat):Int)-1]
theorem vQ(t:Tr): ∀s,(fl t s).length=t.size:=by
 induction t with
 |lf n=>intro s;rfl
 |un n a ih=>intro s;simp [fl,Tr.size,ih]
 |bi n a b iha ihb=>intro s;simp [fl,Tr.size,iha,ihb];omega
theorem ua: ∀st:List Tr,(PH st).length=cd st
 |[]=>rfl
 |t::st=>by simp [PH,cd,ua st,vQ]
theorem df: ∀st:List Tr,(mu st).length=st.length
 |[]=>rfl
 |t::st=>by simp [mu,df st]
theorem T6(t:Tr)(s:Nat):(fl t s)[t.size-1]? =some (s:Int):=by
 cases t with
 |lf n=>rfl
 |un n a=>simp only [fl,Tr.size];rw [tH (by rw [vQ];omega),vQ];simp
 |bi n a b=>simp only [fl,Tr.size];rw [tH (by simp [vQ]),iF,vQ,vQ];simp
theorem EX(t:Tr)(st:List Tr)(rest:List Int):(PH st++fl t (cd st)++rest)[cd st+t.size-1]? =some (cd st:Int):=by
 have:=t.size_pos
 rw [Af (by rw [iF,ua,vQ];omega),tH (by rw [ua];omega),ua,show cd st+t.size-1-cd st=t.size-1 from by omega]
 exact T6 t _
theorem PJ: ∀(ns:List bm) (st:List Tr),cd st+ns.length≤100000→ko ns (cd st) (PH st) (mu st)=some (match pm ns st with
   |some st' =>(PH st',decide (st'.length=1)&&decide (cd st' ≤1000))
   |none=>([],false)):=by
 intro ns
 induction ns with
 |nil=>
  intro st _
  simp only [ko,pm,df,ua]
  congr 2
  congr 1
  ·rw [zk];simp;omega
  ·rw [zk];simp;omega
 |cons n ns ih=>
  intro st hs
  simp only [gX]at hs
  have hll:=Gw st
  unfold ko
  rw [za]
  simp only [ba,df,E5]
  unfold pm
  unfold push
  -- the parts
  cases hk:pk n.Tag with
  |none=>
   have e:H3 n.Tag= -1:=by unfold H3;rw [hk]
   simp [e]
  |some k=>
   have e:H3 n.Tag=(k:Int):=by unfold H3;rw [hk]
   have hk3:k=0∨k=1∨k=2:=by
    unfold pk at hk
    repeat' split at hk
    all_goals simp at hk
    all_goals omega
   rw [e]
   rcases hk3 with rfl|rfl|rfl
   ·-- none
    simp only []
    have c1:(decide (((0:Nat):Int)<0)||decide ((st.length:Int)<((0:Nat):Int)))=false:=by simp
    simp only [c1,Bs,eK,ba]
    cases hc:IY n with
    |false=>simp
    |true=>
     simp only [mi,fZ,d9,uE]
     rw [iO st.length st.length (by rw [cv (by omega) (by omega)];omega) rfl (dn _) (by rw [df];exact dn _)]
     have hd:(List.take st.length (mu st)).drop st.length=[]:=DA (by simp;omega)
     simp only [hd,ba,lR]
     by_cases hL:n.L= -1∧n.R= -1
     ·have hb:(n.L== -1&&n.R== -1)=true:=by simp [hL]
      rw [aX hb,aM (by simp [hL.1,hL.2])]
      rw [bY (by simp only [gX,oC,ua];omega)]
      simp only [ba]
      rw [iO (i:=0) 0 st.length rfl (by rw [df,cv (by omega) (by omega)];omega) (lw _) (by rw [df];exact dn _)]
      rw [rF (by rw [df];exact dn _),yC]
      simp only [ba]
      rw [bY (by simp only [gX,oC,df];omega)]
      simp only [ba]
      have h2:=ih (.lf (gQ n (-1) (-1))::st) (by simp [cd,Tr.size];omega)
      simp only [cd,Tr.size,PH,fl,mu]at h2
      rw [show(((cd st+1:Nat):Int)-1)=(cd st:Int)from by omega]at h2
      exact h2
     ·have hb:(n.L== -1&&n.R== -1)=false:=by
       rw [rn];intro h;apply hL;simpa using h
      rw [hb]
      rw [aX (by
       simp only [CW,FK]
       intro h
       have h1:(-1:Int)=n.L:=by injection h
       have h2:(-1:Int)=n.R:=by injection h with _ h;injection h
       exact hL ⟨h1.symm,h2.symm⟩)]
      simp
   ·-- one
    cases st with
    |nil=>simp
    |cons a st=>
     simp only []
     have c1:(decide (((1:Nat):Int)<0)||decide (((a::st).length:Int)<((1:Nat):Int)))=false:=by simp;omega
     simp only [c1,Bs,eK,ba]
     cases hc:IY n with
     |false=>simp
     |true=>
      simp only [mi,fZ,d9,uE]
      simp only [gX]at hll ⊢
      simp only [cd]at hs hll
      have hap:=a.size_pos
      rw [iO st.length (st.length+1) (by rw [cv (by omega) (by omega)];omega) (by omega) (by omega) (by rw [df];exact dn _)]
      have hd:(List.take (st.length+1) (mu (a::st))).drop st.length=[((cd st+a.size:Nat):Int)-1]:=by
       rw [rF (by rw [df];exact dn _)]
       simp only [mu]
       rw [Gp (by rw [df];exact dn _),DA (by rw [df];exact dn _),kz]
      rw [hd]
      simp only [ba,lR]
      rw [gJ (cd st+a.size-1) (by omega)]
      have hf:=EX a st []
      rw [sy]at hf
      simp only [PH]
      rw [hf]
      simp only [ba]
      rw [gJ 0 rfl]
      simp only [FL,ba]
      have hset:([(-1:Int),-1].set ((0:Nat):Int).toNat (((cd st+a.size:Nat):Int)-1))=[((cd st+a.size:Nat):Int)-1,-1]:=rfl
      rw [hset]
      by_cases hL:n.L=((cd st+a.size:Nat):Int)-1∧n.R= -1
      ·have hb:(n.L==((cd st+a.size:Nat):Int)-1&&n.R== -1)=true:=by simp [hL]
       rw [aX hb,aM (by rw [hL.1,hL.2];simp)]
       rw [bY (by simp only [gX,oC,iF,ua,vQ];omega)]
       simp only [ba]
       rw [iO (i:=0) 0 st.length rfl (by rw [df,cv (by simp<;>omega) (by simp<;>omega)];simp) (lw _) (by rw [df];simp)]
       have ht:(List.take st.length (mu (a::st))).drop 0=mu st:=by
        simp only [mu,yC]
        rw [CY (by rw [df];exact dn _),rF (by rw [df];exact dn _)]
       rw [ht]
       simp only [ba]
       rw [bY (by simp only [gX,oC,df];omega)]
       simp only [ba]
       have h2:=ih (.un (gQ n (-1) (-1)) a::st) (by simp [cd,Tr.size];omega)
       simp only [cd,Tr.size,PH,fl,mu]at h2
       rw [show(((cd st+(a.size+1):Nat):Int)-1)=((cd st+a.size:Nat):Int)from by omega]at h2
       have hm:min ((cd (a::st):Nat):Int) (cd st:Int)=(cd st:Int):=by simp only [cd];omega
       rw [hm]
       simp only [jK]at h2 ⊢
       exact h2
      ·have hb:(n.L==((cd st+a.size:Nat):Int)-1&&n.R== -1)=false:=by
        rw [rn];intro h;apply hL;simpa using h
       rw [hb]
       rw [aX (by
        simp only [CW,FK]
        intro h
        have h1:((cd st+a.size:Nat):Int)-1=n.L:=by injection h
        have h2:(-1:Int)=n.R:=by injection h with _ h;injection h
        exact hL ⟨h1.symm,h2.symm⟩)]
       simp
   ·-- two
    cases st with
    |nil=>simp
    |cons b st=>
     cases st with
     |nil=>simp
     |cons a st=>
      simp only []
      have c1:(decide (((2:Nat):Int)<0)||decide (((b::a::st).length:Int)<((2:Nat):Int)))=false:=by simp;omega
      simp only [c1,Bs,eK,ba]
      cases hc:IY n with
      |false=>simp
      |true=>
       simp only [mi,fZ,d9,uE]
       simp only [gX]at hll ⊢
       simp only [cd]at hs hll
       have hap:=a.size_pos
       have hbp:=b.size_pos
       rw [iO st.length (st.length+1+1) (by rw [cv (by omega) (by omega)];omega) (by omega) (by omega) (by rw [df];exact dn _)]
       have hd:(List.take (st.length+1+1) (mu (b::a::st))).drop st.length=[((cd st+a.size:Nat):Int)-1,((cd st+a.size+b.size:Nat):Int)-1]:=by
        rw [rF (by rw [df];exact dn _)]
        simp only [mu,cd,jK]
        rw [Gp (by rw [df];exact dn _),DA (by rw [df];exact dn _),kz]
        rfl
       rw [hd]
       simp only [ba,lR]
       simp only [PH,cd]
       rw [gJ (cd st+a.size-1) (by omega)]
       rw [EX a st (fl b (cd st+a.size))]
       simp only [ba]
       rw [gJ 0 rfl]
       simp only [FL,ba]
       have hset:([(-1:Int),-1].set ((0:Nat):Int).toNat (((cd st+a.size:Nat):Int)-1))=[((cd st+a.size:Nat):Int)-1,-1]:=rfl
       rw [hset]
       rw [gJ (cd st+a.size+b.size-1) (by omega)]
       have hf:=EX b (a::st) []
       rw [sy]at hf
       simp only [PH,cd]at hf
       rw [hf]
       simp only [ba]
       rw [gJ (0+1) rfl]
       simp only [I9,FL,ba]
       have hset2:([((cd st+a.size:Nat):Int)-1,-1].set ((0+1:Nat):Int).toNat (((cd st+a.size+b.size:Nat):Int)-1))=[((cd st+a.size:Nat):Int)-1,((cd st+a.size+b.size:Nat):Int)-1]:=rfl
       rw [hset2]
       by_cases hL:n.L=((cd st+a.size:Nat):Int)-1∧n.R=((cd st+a.size+b.size:Nat):Int)-1
       ·have hb:(n.L==((cd st+a.size:Nat):Int)-1&&n.R==((cd st+a.size+b.size:Nat):Int)-1)=true:=by rw [hL.1,hL.2];simp
        rw [aX hb,aM (by rw [hL.1,hL.2];simp)]
        rw [bY (by simp only [gX,oC,iF,ua,vQ];omega)]
        simp only [ba]
        rw [iO (i:=0) 0 st.length rfl (by rw [df,cv (by simp;omega) (by simp;omega)];simp;omega) (lw _) (by rw [df];simp;omega)]
        have ht:(List.take st.length (mu (b::a::st))).drop 0=mu st:=by
         simp only [mu,yC,jK]
         rw [CY (by rw [df];exact dn _),rF (by rw [df];exact dn _)]
        rw [ht]
        simp only [ba]
        rw [bY (by simp only [gX,oC,df];omega)]
        simp only [ba]
        have h2:=ih (.bi (gQ n (-1) (-1)) a b::st) (by simp [cd,Tr.size];omega)
        simp only [cd,Tr.size,PH,fl,mu]at h2
        rw [show(((cd st+(a.size+b.size+1):Nat):Int)-1)=((cd st+a.size+b.size:Nat):Int)from by omega,show cd st+(a.size+b.size+1)=cd st+a.size+b.size+1 from by omega]at h2
        have hm:min (min (((cd st+a.size+b.size:Nat)):Int) (cd st:Int)) ((cd st+a.size:Nat):Int)=(cd st:Int):=by omega
        rw [hm]
        simp only [jK]at h2 ⊢
        exact h2
       ·have hb:(n.L==((cd st+a.size:Nat):Int)-1&&n.R==((cd st+a.size+b.size:Nat):Int)-1)=false:=by
         rw [rn];intro h;apply hL;simpa using h
        rw [hb]
        rw [aX (by
         simp only [CW,FK]
         intro h
         have h1:((cd st+a.size:Nat):Int)-1=n.L:=by injection h
         have h2:((cd st+a.size+b.size:Nat):Int)-1=n.R:=by injection h with _ h;injection h
         exact hL ⟨h1.symm,h2.symm⟩)]
        simp

theorem mB{n:Nat}(h:n≤1000000):n≤im:=by unfold im;omega
def jM(ns:List bm):Bool:=(mn ns).isSome
theorem JV{st:List Tr}(h:pm ns []=some st):cd st=ns.length:=by
 have:=(zF h (fun t ht=>by cases ht)).1
 rw [←GW,this];simp [wo]
theorem uD(e:bK)(h:e.Nodes.length≤100000):qA e=some (if jM e.Nodes then 0 else 200):=by
 unfold qA xz jM mn
 have:=PJ e.Nodes [] (by simpa [cd] using h)
 simp only [cd,PH,mu]at this
 rw [this]
 cases hp:pm e.Nodes []with
 |none=>rfl
 |some st=>
  have hsz:=JV hp
  match st,hsz with
  |[],_=>rfl
  |[t],hsz=>
   simp only [ba,hsz]
   by_cases hl:e.Nodes.length≤1000<;>simp [hl]
  |t::t2::st,_=>simp
theorem Tf(t:Tr):t.wf→ ∀(P R N:List bm) (fu:Nat),N=P++t.flat P.length++R→t.size≤fu→N.length≤100000→i7 fu ⟨N⟩ (((P.length+t.size:Nat):Int)-1)=some (t.size:Int):=by
 induction t with
 |lf n=>
  intro⟨h1,h2,h3,h4⟩ P R N fu hN hf hl
  have hNl:=congrArg List.length hN
  simp only [iF,Tr.flat_len]at hNl
  simp only [Tr.size]at hf hNl ⊢
  obtain⟨fu,rfl⟩: ∃k,fu=k+1:=⟨fu-1,by omega⟩
  unfold i7
  have hx:N[P.length]? =some (gQ n (-1) (-1)):=by
   rw [hN,jK,tH (dn _),zj];rfl
  rw [aM (by simp;omega),gJ P.length (by omega),hx]
  have e1:(gQ n (-1) (-1)).Tag=n.Tag:=rfl
  simp only [ba]
  rw [e1,pM]
  have e:H3 n.Tag=0:=by unfold H3;rw [h1];rfl
  simp only [e,ba,jy]
  have e2:IY (gQ n (-1) (-1))=true:=h2
  rw [e2]
  simp [gQ]
 |un n a ih=>
  intro⟨⟨h1,h2,h3,h4⟩,ha⟩ P R N fu hN hf hl
  obtain⟨m,hm⟩: ∃m,m=gQ n (((P.length+a.size:Nat):Int)-1) (-1):=⟨_,rfl⟩
  have hNl:=congrArg List.length hN
  simp only [iF,Tr.flat_len]at hNl
  simp only [Tr.size]at hf hNl ⊢
  simp only [Tr.flat,←hm]at hN
  obtain⟨fu,rfl⟩: ∃k,fu=k+1:=⟨fu-1,by omega⟩
  have hpos:=a.size_pos
  have hi:=ih ha P ([m]++R) N fu (by rw [hN];simp only [jK]) (by omega) hl
  unfold i7
  have hx:N[P.length+a.size]? =some m:=by
   rw [hN,jK,jK,←jK P,tH (by simp [a.flat_len])]
   simp [a.flat_len]
  rw [aM (by simp;omega),gJ (P.length+a.size) (by omega),hx]
  simp only [ba]
  have e1:m.Tag=n.Tag:=by rw [hm];rfl
  rw [e1,pM]
  have e:H3 n.Tag=1:=by unfold H3;rw [h1];rfl
  simp only [e,ba,jy]
  have e2:IY m=true:=by rw [hm];exact h2
  have eL:m.L=((P.length+a.size:Nat):Int)-1:=by rw [hm];rfl
  have eR:m.R= -1:=by rw [hm];rfl
  rw [cv (n:=((P.length+(a.size+1):Nat):Int)-1-1) (by omega) (by omega),show(((P.length+(a.size+1):Nat):Int)-1-1)=(((P.length+a.size:Nat):Int)-1)from by omega]
  rw [hi]
  simp only [ba]
  rw [cv (n:=(a.size:Int)+1) (by omega) (by omega)]
  have n1: ¬a.size=0:=by omega
  simp [e2,eL,eR,n1]
 |bi n a b iha ihb=>
  intro⟨⟨h1,h2,h3,h4⟩,ha,hb⟩ P R N fu hN hf hl
  obtain⟨m,hm⟩: ∃m,m=gQ n (((P.length+a.size:Nat):Int)-1) (((P.length+a.size+b.size:Nat):Int)-1):=⟨_,rfl⟩
  have hNl:=congrArg List.length hN
  simp only [iF,Tr.flat_len]at hNl
  simp only [Tr.size]at hf hNl ⊢
  simp only [Tr.flat,←hm]at hN
  obtain⟨fu,rfl⟩: ∃k,fu=k+1:=⟨fu-1,by omega⟩
  have hap:=a.size_pos
  have hbp:=b.size_pos
  have hi1:=iha ha P (b.flat (P.length+a.size)++[m]++R) N fu (by rw [hN];simp only [jK]) (by omega) hl
  have hi2:=ihb hb (P++a.flat P.length) ([m]++R) N fu (by rw [hN];simp only [jK,iF,a.flat_len]) (by omega) hl
  rw [iF,a.flat_len]at hi2
  unfold i7
  have hx:N[P.length+a.size+b.size]? =some m:=by
   rw [hN,jK,jK,←jK P,tH (by simp [a.flat_len,b.flat_len];omega)]
   have:P.length+a.size+b.size-(P++(a.flat P.length++b.flat (P.length+a.size))).length=0:=by simp [a.flat_len,b.flat_len];omega
   rw [this];rfl
  rw [aM (by simp;omega),gJ (P.length+a.size+b.size) (by omega),hx]
  simp only [ba]
  have e1:m.Tag=n.Tag:=by rw [hm];rfl
  rw [e1,pM]
  have e:H3 n.Tag=2:=by unfold H3;rw [h1];rfl
  simp only [e,ba,jy]
  have e2:IY m=true:=by rw [hm];exact h2
  have eL:m.L=((P.length+a.size:Nat):Int)-1:=by rw [hm];rfl
  have eR:m.R=((P.length+a.size+b.size:Nat):Int)-1:=by rw [hm];rfl
  rw [cv (n:=((P.length+(a.size+b.size+1):Nat):Int)-1-1) (by omega) (by omega),show(((P.length+(a.size+b.size+1):Nat):Int)-1-1)=(((P.length+a.size+b.size:Nat):Int)-1)from by omega]
  rw [hi2]
  simp only [ba]
  rw [cv (n:=((P.length+a.size+b.size:Nat):Int)-1-(b.size:Int)) (by omega) (by omega),show((P.length+a.size+b.size:Nat):Int)-1-(b.size:Int)=((P.length+a.size:Nat):Int)-1 from by omega]
  rw [hi1]
  simp only [ba]
  rw [cv (n:=(a.size:Int)+(b.size:Int)) (by omega) (by omega),cv (n:=(a.size:Int)+(b.size:Int)+1) (by omega) (by omega)]
  have n1: ¬a.size=0:=by omega
  have n2: ¬b.size=0:=by omega
  have e5:(P.length:Int)+(a.size:Int)+(b.size:Int)-1-(b.size:Int)=(P.length:Int)+(a.size:Int)-1:=by omega
  simp [e2,eL,eR,n1,n2,e5]
theorem Tg(N:List bm)(hN:N.length≤100000): ∀(fu q:Nat),q≤N.length→q<fu→ ∃k:Nat,i7 fu ⟨N⟩ ((q:Int)-1)=some (k:Int)∧(k=0∨ ∃(t:Tr) (P R:List bm),t.wf∧t.size=k∧N=P++t.flat P.length++R∧P.length+k=q):=by
 intro fu
 induction fu with
 |zero=>intro q _ h;omega
 |succ fu ih=>
  intro q hq hf
  unfold i7
  by_cases h0:q=0
  ·subst h0
   exact⟨0,by rw [aX (by simp)];rfl,.inl rfl⟩
  rw [aM (by simp;omega),gJ (q-1) (by omega)]
  have hlt:q-1<N.length:=by omega
  rw [ox hlt]
  obtain⟨n,hn⟩: ∃n,n=N[q-1]:=⟨_,rfl⟩
  rw [←hn]
  have hd:N=N.take (q-1)++([n]++N.drop q):=by
   have h1:=uG (q-1) N
   rw [wz hlt,←hn,show q-1+1=q from by omega]at h1
   exact h1.symm
  simp only [ba,pM,jy]
  cases hk:pk n.Tag with
  |none=>
   have e:H3 n.Tag= -1:=by unfold H3;rw [hk]
   exact⟨0,by simp [e],.inl rfl⟩
  |some k=>
   have e:H3 n.Tag=(k:Int):=by unfold H3;rw [hk]
   have hk3:k=0∨k=1∨k=2:=by
    unfold pk at hk
    repeat' split at hk
    all_goals simp at hk
    all_goals omega
   cases hc:IY n with
   |false=>exact⟨0,by simp [e,hc],.inl rfl⟩
   |true=>
    rcases hk3 with rfl|rfl|rfl
    ·rw [e]
     by_cases hL:n.L= -1∧n.R= -1
     ·refine⟨1,by simp [hL],.inr ⟨.lf (gQ n (-1) (-1)),N.take (q-1),N.drop q,⟨hk,hc,rfl,rfl⟩,rfl,?_,by simp;omega⟩⟩
      simp only [Tr.flat]
      rw [ya hL.1 hL.2,jK]
      exact hd
     ·refine⟨0,?_,.inl rfl⟩
      have:(n.L != -1||n.R != -1)=true:=by
       rw [p9,qT,qT]
       by_cases hl:n.L= -1
       ·exact .inr fun h=>hL ⟨hl,h⟩
       ·exact .inl hl
      simp [this]
    ·rw [e,cv (by omega) (by omega)]
     have e9:(((q-1:Nat):Int)-1)=(q:Int)-1-1:=by omega
     obtain⟨r2,h2,h2'⟩:=ih (q-1) (by omega) (by omega)
     rw [e9]at h2
     rw [h2]
     rcases h2' with rfl|⟨t,P,R,hw,hs,hN2,hl⟩
     ·exact⟨0,by simp,.inl rfl⟩
     ·have hp:=t.size_pos
      by_cases hL:n.L=(q:Int)-1-1∧n.R= -1
      ·refine⟨r2+1,?_,.inr ⟨.un (gQ n (-1) (-1)) t,P,N.drop q,⟨⟨hk,hc,rfl,rfl⟩,hw⟩,by simp only [Tr.size];omega,?_,by omega⟩⟩
       ·simp only [ba]
        rw [cv (n:=(r2:Int)+1) (by omega) (by omega)]
        have: ¬(r2=0):=by omega
        simp [hL,this]
       ·simp only [Tr.flat]
        rw [ya (by rw [hL.1];omega) hL.2]
        have ht:N.take (q-1)=P++t.flat P.length:=by
         rw [hN2,CY (by simp [t.flat_len];omega),rF (by simp [t.flat_len];omega)]
        rw [ht]at hd
        simpa only [jK] using hd
      ·refine⟨0,?_,.inl rfl⟩
       have:(n.L !=(q:Int)-1-1||n.R != -1)=true:=by
        rw [p9,qT,qT]
        by_cases hl:n.L=(q:Int)-1-1
        ·exact .inr fun h=>hL ⟨hl,h⟩
        ·exact .inl hl
       simp [this]
    ·rw [e,cv (n:=(q:Int)-1-1) (by omega) (by omega)]
     have e9:(((q-1:Nat):Int)-1)=(q:Int)-1-1:=by omega
     obtain⟨r2,h2,h2'⟩:=ih (q-1) (by omega) (by omega)
     rw [e9]at h2
     rw [h2]
     rcases h2' with rfl|⟨t,P,R,hw,hs,hN2,hl⟩
     ·exact⟨0,by simp,.inl rfl⟩
     ·have hp:=t.size_pos
      simp only [ba]
      rw [cv (n:=(q:Int)-1-1-(r2:Int)) (by omega) (by omega)]
      have e8:(((q-1-r2:Nat):Int)-1)=(q:Int)-1-1-(r2:Int):=by omega
      have n2: ¬(r2=0):=by omega
      obtain⟨r3,h3,h3'⟩:=ih (q-1-r2) (by omega) (by omega)
      rw [e8]at h3
      rw [h3]
      rcases h3' with rfl|⟨t3,P3,R3,hw3,hs3,hN3,hl3⟩
      ·exact⟨0,by simp,.inl rfl⟩
      ·have hp3:=t3.size_pos
       have n3: ¬(r3=0):=by omega
       by_cases hL:n.R=(q:Int)-1-1∧n.L=(q:Int)-1-1-(r2:Int)
       ·refine⟨r3+r2+1,?_,.inr ⟨.bi (gQ n (-1) (-1)) t3 t,P3,N.drop q,⟨⟨hk,hc,rfl,rfl⟩,hw3,hw⟩,by simp only [Tr.size];omega,?_,by omega⟩⟩
        ·simp only [ba]
         rw [cv (n:=(r3:Int)+(r2:Int)) (by omega) (by omega),cv (n:=(r3:Int)+(r2:Int)+1) (by omega) (by omega)]
         simp [hL,n2,n3]
        ·simp only [Tr.flat]
         rw [ya (by rw [hL.2];omega) (by rw [hL.1];omega)]
         have ht:N.take (q-1)=P++t.flat P.length:=by
          rw [hN2,CY (by simp [t.flat_len];omega),rF (by simp [t.flat_len];omega)]
         have hP:P=N.take P.length:=by
          conv=>rhs;rw [hN2,jK,CY (dn _),rF (dn _)]
         have hP3:P=P3++t3.flat P3.length:=by
          rw [hP]
          have:P.length=P3.length+t3.size:=by omega
          conv=>lhs;rw [this,hN3]
          rw [CY (by simp [t3.flat_len]),rF (by simp [t3.flat_len])]
         have hPl:P.length=P3.length+t3.size:=by omega
         rw [ht,hPl]at hd
         rw [hP3]at hd
         simpa only [jK] using hd
       ·clear ih hN2 hN3
        refine⟨0,?_,.inl rfl⟩
        have:(n.R !=(q:Int)-1-1||n.L !=(q:Int)-1-1-(r2:Int))=true:=by
         rw [p9,qT,qT]
         by_cases hl:n.R=(q:Int)-1-1
         ·exact .inr fun h=>hL ⟨hl,h⟩
         ·exact .inl hl
        have h' :=this
        rw [p9,qT,qT]at h'
        simp [n2,n3]
        intro h1 h2
        exact absurd h2 (by rcases h' with h' |h';exact absurd h1 h';exact h')
theorem xe(e:bK):tU e=some (jM e.Nodes):=by
 unfold tU jM
 by_cases h:1≤e.Nodes.length∧e.Nodes.length≤1000
 ·rw [aX (by simp;omega),cv (by omega) (by omega)]
  unfold Eo
  obtain⟨k,h1,h2⟩:=Tg e.Nodes (by omega) im e.Nodes.length (dn _) (wL (Dy _) (mB (by omega)))
  have h1' :i7 im e ((e.Nodes.length:Int)-1)=some (k:Int):=h1
  rw [h1']
  simp only [ba]
  congr 1
  rw [zk]
  constructor
  ·intro hk
   have hk' :k=e.Nodes.length:=by have:=eq_of_beq hk;omega
   rcases h2 with rfl|⟨t,P,R,hw,hs,hN,hl⟩
   ·omega
   ·have hP:P=[]:=tI (by omega)
    subst hP
    have hR:R=[]:=by
     have:=congrArg List.length hN
     simp [t.flat_len]at this
     exact tI (by omega)
    subst hR
    have hN' :e.Nodes=t.flat 0:=by simpa using hN
    rw [hN',Jo hw (by omega)];rfl
  ·intro hi
   cases ht:mn e.Nodes with
   |none=>rw [ht]at hi;cases hi
   |some t=>
    obtain⟨hw,hN,hs⟩:=jT ht
    have hlen:e.Nodes.length=t.size:=by rw [hN,t.flat_len]
    have h3:=Tf t hw [] [] e.Nodes im (by simpa using hN) (mB (by omega)) (by omega)
    simp only [oC,uo]at h3
    rw [←hlen]at h3
    have h4:some (k:Int)=some (e.Nodes.length:Int):=h1.symm.trans h3
    simpa using h4
 ·rw [aM (by simp;omega)]
  simp only [ba]
  congr 1
  symm
  rw [rn]
  intro hi
  cases ht:mn e.Nodes with
  |none=>rw [ht]at hi;cases hi
  |some t=>
   obtain⟨hw,hN,hs⟩:=jT ht
   have hlen:e.Nodes.length=t.size:=by rw [hN,t.flat_len]
   have:=t.size_pos
   omega
theorem Md(h:jM ns=true):1≤ns.length∧ns.length≤1000:=by
 unfold jM at h
 cases ht:mn ns with
 |none=>rw [ht]at h;cases h
 |some t=>
  obtain⟨hw,hN,hs⟩:=jT ht
  have hlen:ns.length=t.size:=by rw [hN,t.flat_len]
  have:=t.size_pos
  omega

theorem KT(p:List Int)(hp:p.length≤8000)(i:Nat)(y:List Int)(hy:i+y.length=p.length): ∀(k i1:Nat) (x:List Int) (x1:Nat),i1+k=y.length→0<i1→x.length=p.length→x1+1≤i+i1→x.drop (i+i1-1)=p.drop (i+i1-1)→
  dZ i y k i1 x (x1:Int)=some (x.take x1++th ((p[i+i1-1]?).getD 0) (p.drop (i+i1))):=by
 intro k
 induction k with
 |zero=>
  intro i1 x x1 h1 h0 hx h2 h3
  simp only [dZ]
  have hx1:x1≤x.length:=by omega
  rw [lE hx1 (dn _)]
  simp only [ba,wS,Ac]
  rw [show((0:Int))=((0:Nat):Int)from rfl,lE (lw _) (by simp;omega)]
  simp only [ba,yC]
  have hn:p.drop (i+i1)=[]:=Ae (by omega)
  rw [hn,Bd,sy,CY (by simp;omega),Br,Nat.min_self]
 |succ k ih=>
  intro i1 x x1 h1 h0 hx h2 h3
  have e1:x[i+i1]? =p[i+i1]? :=by
   have:=congrArg (fun l:List Int=>l[1]?) h3
   simp only [wM]at this
   rwa [show i+i1-1+1=i+i1 from by omega]at this
  have e0:x[i+i1-1]? =p[i+i1-1]? :=by
   have:=congrArg (fun l:List Int=>l[0]?) h3
   simpa only [wM,wG] using this
  have hlt:i+i1<p.length:=by omega
  have g1:xr x (i:Int) y.length (i1:Int)=some p[i+i1]:=by
   unfold xr
   rw [aX (by omega),show(i:Int)+(i1:Int)=((i+i1:Nat):Int)from by omega,bW,e1,ox hlt]
  have g0:xr x (i:Int) y.length (IntKind.i64.wrap ((i1:Int)-1))=some p[i+i1-1]:=by
   rw [cv (by omega) (by omega)]
   unfold xr
   rw [aX (by omega),show(i:Int)+((i1:Int)-1)=((i+i1-1:Nat):Int)from by omega,bW,e0,ox (by omega)]
  have hd:p.drop (i+i1)=p[i+i1]::p.drop (i+i1+1):=wz hlt
  have hp1:(p[i+i1-1]?).getD 0=p[i+i1-1]:=by rw [ox (by omega)];rfl
  simp only [dZ,g1,g0,ba]
  rw [hd,hp1]
  by_cases hx2:p[i+i1]=p[i+i1-1]
  ·rw [aM (by simp [hx2])]
   have h3' :x.drop (i+(i1+1)-1)=p.drop (i+(i1+1)-1):=by
    have:=congrArg (List.drop 1) h3
    rwa [pD,pD,show i+i1-1+1=i+(i1+1)-1 from by omega]at this
   rw [ih (i1+1) x x1 (by omega) (by omega) hx (by omega) h3']
   rw [yn hx2,show i+(i1+1)-1=i+i1 from by omega,ox hlt,show i+(i1+1)=i+i1+1 from by omega]
   rfl
  ·rw [aX (by simp [hx2]),bW,ox (by omega)]
   simp only [ba,Ac]
   rw [cv (by omega) (by omega),show((x1:Int)+1)=((x1+1:Nat):Int)from by omega]
   have h3' :(x.set x1 p[i+i1]).drop (i+(i1+1)-1)=p.drop (i+(i1+1)-1):=by
    rw [List.drop_set_of_lt (by omega)]
    have:=congrArg (List.drop 1) h3
    rwa [pD,pD,show i+i1-1+1=i+(i1+1)-1 from by omega]at this
   rw [ih (i1+1) _ (x1+1) (by omega) (by omega) (by simpa using hx) (by omega) h3']
   rw [Du hx2,show i+(i1+1)-1=i+i1 from by omega,ox hlt,show i+(i1+1)=i+i1+1 from by omega]
   have ht:(x.set x1 p[i+i1]).take (x1+1)=x.take x1++[p[i+i1]]:=by
    rw [Ja (by simp;omega),List.take_set_of_le (by omega)]
    simp
   rw [ht]
   simp
theorem CP(p:List Int)(hp:p.length≤8000):hZ p=some (qe p):=by
 unfold hZ
 by_cases h2:p.length<2
 ·rw [aX (by simp;omega)]
  match p,h2 with
  |[],_=>rfl
  |[x],_=>rfl
 ·rw [aM (by simp;omega)]
  have key: ∀(l:List Int) (i:Nat),p.drop i=l→0<i→i≤p.length→qe p=p.take i++th ((p[i-1]?).getD 0) (p.drop i)→eJ p l i=some (qe p):=by
   intro l
   induction l with
   |nil=>
    intro i h1 h0 hle h3
    have:=FJ.1 h1
    simp only [eJ]
    rw [h3,h1,rF (by omega),Bd,sy]
   |cons x t ih=>
    intro i h1 h0 hle h3
    have hi:i<p.length:=by
     rcases mS i p.length with h|h
     ·exact h
     ·rw [Ae h]at h1;cases h1
    have hx:x=p[i]:=by rw [wz hi]at h1;exact(Cl h1).1.symm
    have ht:p.drop (i+1)=t:=by rw [←pD,h1];rfl
    have hp1:(p[i-1]?).getD 0=p[i-1]:=by rw [ox (by omega)];rfl
    simp only [eJ]
    rw [cv (by omega) (by omega),show(i:Int)-1=((i-1:Nat):Int)from by omega,bW,ox (by omega)]
    simp only [ba]
    by_cases he:x=p[i-1]
    ·rw [aX (by simp [he])]
     rw [lE hle (dn _)]
     simp only [ba,wS]
     rw [KT p hp i (p.drop i) (by simp;omega) _ 1 p i (by simp;omega) (by omega) rfl (by omega) (by simp)]
     rw [h3,h1,hp1,yn he,←ht,hx]
     rw [show i+1-1=i from by omega,ox hi];rfl
    ·rw [aM (by simp [he])]
     refine ih (i+1) ht (by omega) (by omega) ?_
     rw [h3,h1,hp1,Du he,Ja hi,←ht,hx,show i+1-1=i from by omega,ox hi]
     rw [jK];rfl
  have hpc:p=p[0]::p.drop 1:=by
   have:=wz (l:=p) (i:=0) (by omega)
   simpa using this
  refine key (p.drop 1) 1 rfl (by omega) (by omega) ?_
  have e:(p[1-1]?).getD 0=p[0]:=by simp [ox (show 0<p.length by omega)]
  rw [e]
  conv=>lhs;rw [hpc]
  have e2:p.take 1=[p[0]]:=by
   conv=>lhs;rw [hpc]
   rfl
  rw [e2];rfl

theorem GL(l:List Int)(z:Int):z∈sortI l↔z∈l:=by unfold sortI;simp
theorem z7: ∀(ns:List bm) (out:List Int),out.length+ns.length≤8000→ ∃cs,mI ns out=some cs∧ ∀c,c∈cs↔c∈out∨ ∃n∈ns,n.Tag=2∧n.Col=c
 |[],out,h=>by
  unfold mI zt
  rw [aX (by simp at h;omega)]
  simp only [ba]
  rw [CP _ (by rw [xR];simpa using h)]
  exact⟨_,rfl,fun c=>by rw [u8,GL];simp⟩
 |n::ns,out,h=>by
  simp only [gX]at h
  unfold mI
  by_cases ht:n.Tag=2
  ·rw [aX (by simp [ht]),bY (by simp;omega)]
   simp only [ba]
   obtain⟨cs,h1,h2⟩:=z7 ns (out++[n.Col]) (by simp;omega)
   exact⟨cs,h1,fun c=>by rw [h2];simp [ht,or_assoc,eq_comm]⟩
  ·rw [aM (by simp [ht])]
   obtain⟨cs,h1,h2⟩:=z7 ns out (by omega)
   exact⟨cs,h1,fun c=>by rw [h2];simp [ht]⟩
theorem A4(e:bK)(h:jM e.Nodes=true): ∃cs,su e=some cs∧ ∀c,c∈cs↔ ∃n∈e.Nodes,n.Tag=2∧n.Col=c:=by
 have hl:=Md h
 unfold su
 rw [uD e (by omega),h]
 obtain⟨cs,h1,h2⟩:=z7 e.Nodes [] (by simp;omega)
 exact⟨cs,by simpa using h1,fun c=>by rw [h2];simp⟩
def kn(tag l r:Int):Int×Bool:=(iP tag l r).getD (0,false)
theorem y5(tag l r:Int):iP tag l r=some (kn tag l r):=by
 unfold kn iP ie
 simp only [ba]
 repeat' split
 all_goals simp
def k4(k:Int):Prop:=k=0∨k=1∨k=2∨k=3
theorem Wd(tag l r:Int):k4 (kn tag l r).1:=by
 unfold kn iP ie
 simp only [ba]
 repeat' split
 all_goals simp [k4]
variable{kinds:List Int}
theorem Nn(kinds:List Int)(n:bm)(x:Int)(hx:k4 x)(hk:pk n.Tag=some 1):jl kinds n [x]=some (if(kn n.Tag x 0).2 then((kn n.Tag x 0).1,0)else(0,201)):=by
 obtain⟨tag,L,R,col,v⟩:=n
 have ht:tag=4∨tag=5∨tag=6∨tag=7:=by
  unfold pk at hk
  repeat' split at hk
  all_goals simp at hk
  rename_i h
  have h:4≤tag∧tag≤7:=h
  omega
 rcases ht with rfl|rfl|rfl|rfl<;>rcases hx with rfl|rfl|rfl|rfl<;>rfl
theorem Nm(kinds:List Int)(n:bm)(x y:Int)(hx:k4 x)(hy:k4 y)(hk:pk n.Tag=some 2):jl kinds n [x,y]=some (if(kn n.Tag x y).2 then((kn n.Tag x y).1,0)else(0,201)):=by
 obtain⟨tag,L,R,col,v⟩:=n
 have ht:tag=12∨tag=13∨tag=14∨tag=15∨tag=16∨tag=17∨tag=18∨tag=19∨tag=20∨tag=21∨tag=22∨tag=23:=by
  unfold pk at hk
  repeat' split at hk
  all_goals simp at hk
  rename_i h
  have h:12≤tag∧tag≤23:=h
  omega
 rcases ht with rfl|rfl|rfl|rfl|rfl|rfl|rfl|rfl|rfl|rfl|rfl|rfl<;>rcases hx with rfl|rfl|rfl|rfl<;>rcases hy with rfl|rfl|rfl|rfl<;>rfl
def kd(kinds:List Int):Tr→Option Int
 | .lf n=>if n.Tag=1 then some n.Value.Kind else some ((kinds[n.Col.toNat]?).getD 0)
 | .un n a=>(kd kinds a).bind fun x=>if(kn n.Tag x 0).2 then some (kn n.Tag x 0).1 else none
 | .bi n a b=>(kd kinds a).bind fun x=>(kd kinds b).bind fun y=>if(kn n.Tag x y).2 then some (kn n.Tag x y).1 else none
theorem N1(kinds:List Int)(n:bm)(a:Tr):kd kinds (.un n a)=(kd kinds a).bind fun x=>if(kn n.Tag x 0).2 then some (kn n.Tag x 0).1 else none:=rfl
theorem Kz(kinds:List Int)(n:bm)(a b:Tr):kd kinds (.bi n a b)=(kd kinds a).bind fun x=>(kd kinds b).bind fun y=>if(kn n.Tag x y).2 then some (kn n.Tag x y).1 else none:=rfl
def CQ(m:Nat):Tr→Prop
 | .lf n=>n.Tag=2→n.Col<m
 | .un _ a=>CQ m a
 | .bi _ a b=>CQ m a∧CQ m b
theorem YN(h:pk tag=some 0):tag=1∨tag=2:=by
 unfold pk at h
 repeat' split at h
 all_goals simp at h
 assumption
theorem pk2(h:pk tag=some k)(ht:tag=2):k=0:=by subst ht;simp [pk]at h;exact h.symm
theorem ZY(h:IY n=true)(ht:n.Tag=1):mA n.Value=true:=by
 have h2:=jy n
 rw [h]at h2
 unfold mw at h2
 rw [aX (by simp [ht]),je]at h2
 simp at h2
 exact h2.1
theorem MZ(h:IY n=true)(ht:n.Tag=2):0≤n.Col∧n.Col<16:=by
 have h2:=jy n
 rw [h]at h2
 unfold mw at h2
 rw [aM (by simp [ht]),aX (by simp [ht])]at h2
 simp at h2
 exact⟨h2.1.2,h2.2⟩
theorem N2(hk: ∀k∈kinds,k4 k): ∀(t:Tr),t.wf→ ∀{k},kd kinds t=some k→k4 k
 | .lf n,⟨h1,h2,_,_⟩,k,h=>by
  unfold kd at h
  split at h
  ·rename_i ht
   have:=JT (ZY h2 ht)
   cases h;unfold k4;omega
  ·injection h with h
   subst h
   cases hc:kinds[n.Col.toNat]? with
   |none=>exact .inl rfl
   |some z=>exact hk z (qU hc)
 | .un n a,_,k,h=>by
  unfold kd at h
  cases ha:kd kinds a with
  |none=>rw [ha]at h;cases h
  |some x=>
   rw [ha,ba]at h
   split at h
   ·cases h;exact Wd ..
   ·cases h
 | .bi n a b,_,k,h=>by
  unfold kd at h
  cases ha:kd kinds a with
  |none=>rw [ha]at h;cases h
  |some x=>
   cases hb:kd kinds b with
   |none=>rw [ha,hb]at h;cases h
   |some y=>
    rw [ha,hb]at h
    simp only [ba]at h
    split at h
    ·cases h;exact Wd ..
    ·cases h
theorem Ml(stack l:List Int)(h:stack.length+l.length≤100000):oQ (stack++l) (l.length:Int)=some (l,stack):=by
 unfold oQ cx
 have e:IntKind.i64.wrap (((stack++l).length:Int)-(l.length:Int))=(stack.length:Int):=by
  rw [iF,cv (by omega) (by omega)];omega
 rw [e,iO stack.length (stack++l).length rfl rfl (by simp) (dn _)]
 simp only [ba,wS,Gp (dn _),List.drop_length,kz]
 rw [bY (by simp;omega)]
 simp only [ba,kz]
 rw [iO (i:=0) 0 stack.length rfl rfl (lw _) (by simp)]
 simp
theorem J0(stack:List Int){b:Int}(h:b≠0):lQ b stack=some (0,b):=by
 unfold lQ;rw [aX (by simpa using h)]
theorem nl(h:pk tag=some k):o9 tag=some (k:Int):=by
 rw [za];unfold H3;rw [h]
theorem Ps(kinds:List Int)(hk: ∀k∈kinds,k4 k)(t:Tr):t.wf→CQ kinds.length t→ ∀(s:Nat) (rest:List bm) (stack:List Int),stack.length+t.size≤50000→
  gT (jl kinds) (t.flat s++rest) 0 stack=match kd kinds t with
   |some k=>gT (jl kinds) rest 0 (stack++[k])
   |none=>some (0,201):=by
 induction t with
 |lf n=>
  intro⟨h1,h2,h3,h4⟩ hc s rest stack hl
  simp only [Tr.flat,Tr.size,wI,kz]at hl ⊢
  rw [gT]
  have e1:(gQ n (-1) (-1)).Tag=n.Tag:=rfl
  rw [e1,nl h1]
  have h0:=Ml stack [] (by simp;omega)
  simp only [sy,oC]at h0
  simp only [ba]
  rw [h0]
  simp only [ba]
  have hv:jl kinds (gQ n (-1) (-1)) []=(kd kinds (.lf n)).map (fun k=>(k,(0:Int))):=by
   unfold jl lS kd
   simp only [e1]
   rcases YN h1 with ht|ht
   ·rw [aX (by simp [ht]),aX ht];rfl
   ·rw [aM (by simp [ht]),aX (by simp [ht]),aM (by simp [ht])]
    have hb:=MZ h2 ht
    have hm:n.Col<kinds.length:=hc ht
    have e2:(gQ n (-1) (-1)).Col=n.Col:=rfl
    rw [e2,gJ n.Col.toNat (by omega),ox (by omega)]
    rfl
  rw [hv]
  have: ∃k,kd kinds (.lf n)=some k:=by unfold kd;split<;>exact⟨_,rfl⟩
  obtain⟨k,hk1⟩:=this
  rw [hk1]
  simp only [Option.map_some,ba]
  rw [aM (by simp),bY (by simp;omega)]
  rfl
 |un n a ih=>
  intro⟨⟨h1,h2,h3,h4⟩,ha⟩ hc s rest stack hl
  simp only [Tr.flat,Tr.size,jK]at hl ⊢
  rw [N1,ih ha hc s _ stack (by omega)]
  cases hx:kd kinds a with
  |none=>rfl
  |some x=>
   have hx4:=N2 hk a ha hx
   simp only [ba,wI,kz]
   rw [gT]
   have e1:(gQ n (((s+a.size:Nat):Int)-1) (-1)).Tag=n.Tag:=rfl
   rw [e1,nl h1]
   have h0:=Ml stack [x] (by simp;omega)
   simp only [ba]
   have e0:(([x]:List Int).length:Int)=((1:Nat):Int):=rfl
   rw [←e0,h0]
   simp only [ba]
   rw [Nn kinds _ x hx4 (by rw [e1];exact h1),e1]
   cases hb:(kn n.Tag x 0).2 with
   |true=>
    simp only [eK,ba]
    rw [aM (by simp),bY (by simp;omega)]
    rfl
   |false=>
    simp only [fZ,d9,ba]
    rw [aX (by decide),J0 _ (by decide)]
 |bi n a b iha ihb=>
  intro⟨⟨h1,h2,h3,h4⟩,ha,hb⟩ ⟨hca,hcb⟩ s rest stack hl
  simp only [Tr.flat,Tr.size,jK]at hl ⊢
  rw [Kz,iha ha hca s _ stack (by omega)]
  cases hx:kd kinds a with
  |none=>rfl
  |some x=>
   have hx4:=N2 hk a ha hx
   simp only [ba]
   rw [ihb hb hcb (s+a.size) _ (stack++[x]) (by have:=a.size_pos;simp;omega)]
   cases hy:kd kinds b with
   |none=>rfl
   |some y=>
    have hy4:=N2 hk b hb hy
    have hap:=a.size_pos
    simp only [ba,wI,kz]
    rw [gT]
    have e1:(gQ n (((s+a.size:Nat):Int)-1) (((s+a.size+b.size:Nat):Int)-1)).Tag=n.Tag:=rfl
    rw [e1,nl h1]
    have h0:=Ml stack [x,y] (by simp;omega)
    simp only [ba]
    have e0:(([x,y]:List Int).length:Int)=((2:Nat):Int):=rfl
    have e9:stack++[x]++[y]=stack++[x,y]:=by simp
    rw [←e0,e9,h0]
    simp only [ba]
    rw [Nm kinds _ x y hx4 hy4 (by rw [e1];exact h1),e1]
    cases hb:(kn n.Tag x y).2 with
    |true=>
     simp only [eK,ba]
     rw [aM (by simp),bY (by simp;omega)]
     rfl
    |false=>
     simp only [fZ,d9,ba]
     rw [aX (by decide),J0 _ (by decide)]
theorem QU(kinds:List Int)(hk: ∀k∈kinds,k4 k)(t:Tr):t.wf→CQ kinds.length t→ ∀(rest:List bm) (own:List Int),own.length+t.size≤50000→
  (kd kinds t=none∧dm kinds (t.flat own.length++rest) own=some (0,201))∨
  (∃k w,kd kinds t=some k∧w.length+1=t.size∧dm kinds (t.flat own.length++rest) own=dm kinds rest (own++w++[k])):=by
 induction t with
 |lf n=>
  intro⟨h1,h2,h3,h4⟩ hc rest own hl
  simp only [Tr.flat,Tr.size,wI,kz]at hl ⊢
  refine .inr ?_
  have e1:(gQ n (-1) (-1)).Tag=n.Tag:=rfl
  unfold kd
  rcases YN h1 with ht|ht
  ·refine⟨_,[],aX ht,rfl,?_⟩
   rw [dm]
   rw [e1,aX (by simp [ht]),bY (by simp;omega)]
   simp only [ba,sy]
   rfl
  ·refine⟨_,[],aM (by simp [ht]),rfl,?_⟩
   have hb:=MZ h2 ht
   have hm:n.Col<kinds.length:=hc ht
   have e2:(gQ n (-1) (-1)).Col=n.Col:=rfl
   rw [dm]
   rw [e1,aM (by simp [ht]),aX (by simp [ht]),e2,gJ n.Col.toNat (by omega),ox (by omega)]
   simp only [ba,sy,Gh]
   rw [bY (by simp;omega)]
   rfl
 |un n a ih=>
  intro⟨⟨h1,h2,h3,h4⟩,ha⟩ hc rest own hl
  have hap:=a.size_pos
  simp only [Tr.flat,Tr.size,jK]at hl ⊢
  rcases ih ha hc ([gQ n (((own.length+a.size:Nat):Int)-1) (-1)]++rest) own (by omega)with⟨hx,he⟩|⟨x,w,hx,hw,he⟩
  ·exact .inl ⟨by rw [N1,hx];rfl,by rw [he]⟩
  ·rw [he]
   rw [N1,hx]
   simp only [ba,wI,kz]
   have e1:(gQ n (((own.length+a.size:Nat):Int)-1) (-1)).Tag=n.Tag:=rfl
   have n1:n.Tag≠1:=fun h=>by rw [h]at h1;simp [pk]at h1
   have n2:n.Tag≠2:=fun h=>by rw [h]at h1;simp [pk]at h1
   have hstep:dm kinds (gQ n (((own.length+a.size:Nat):Int)-1) (-1)::rest) (own++w++[x])=if(kn n.Tag x 0).2 then dm kinds rest (own++w++[x]++[(kn n.Tag x 0).1])else some (0,201):=by
    rw [dm]
    rw [e1,aM (by simpa using n1),aM (by simpa using n2)]
    have eL:(gQ n (((own.length+a.size:Nat):Int)-1) (-1)).L=((own.length+a.size:Nat):Int)-1:=rfl
    have eR:(gQ n (((own.length+a.size:Nat):Int)-1) (-1)).R= -1:=rfl
    rw [eL,eR,gJ (own++w).length (by simp;omega),tH (dn _),zj]
    simp only [FL,ba]
    rw [aM (by decide)]
    unfold qL
    rw [e1,y5]
    simp only [ba]
    cases hb:(kn n.Tag x 0).2 with
    |true=>
     simp only [mi,fZ,d9,eK]
     rw [bY (by simp;omega)];rfl
    |false=>rfl
   rw [hstep]
   cases hb:(kn n.Tag x 0).2 with
   |true=>exact .inr ⟨(kn n.Tag x 0).1,w++[x],by simp,by simp;omega,by simp⟩
   |false=>exact .inl ⟨by simp,by simp⟩
 |bi n a b iha ihb=>
  intro⟨⟨h1,h2,h3,h4⟩,ha,hb⟩ ⟨hca,hcb⟩ rest own hl
  have hap:=a.size_pos
  have hbp:=b.size_pos
  simp only [Tr.flat,Tr.size,jK]at hl ⊢
  obtain⟨m,hm⟩: ∃m,m=gQ n (((own.length+a.size:Nat):Int)-1) (((own.length+a.size+b.size:Nat):Int)-1):=⟨_,rfl⟩
  rw [←hm]
  rcases iha ha hca (b.flat (own.length+a.size)++([m]++rest)) own (by omega)with⟨hx,he⟩|⟨x,w,hx,hw,he⟩
  ·exact .inl ⟨by rw [Kz,hx];rfl,by rw [he]⟩
  ·rw [he]
   have hl2:(own++w++[x]).length=own.length+a.size:=by simp;omega
   rw [←hl2]
   rcases ihb hb hcb ([m]++rest) (own++w++[x]) (by rw [hl2];omega)with⟨hy,he2⟩|⟨y,w2,hy,hw2,he2⟩
   ·exact .inl ⟨by rw [Kz,hx,hy];rfl,by rw [he2]⟩
   ·rw [he2]
    rw [Kz,hx,hy]
    simp only [ba,wI,kz]
    have e1:m.Tag=n.Tag:=by rw [hm];rfl
    have eL:m.L=((own.length+a.size:Nat):Int)-1:=by rw [hm];rfl
    have eR:m.R=((own.length+a.size+b.size:Nat):Int)-1:=by rw [hm];rfl
    have n1:n.Tag≠1:=fun h=>by rw [h]at h1;simp [pk]at h1
    have n2:n.Tag≠2:=fun h=>by rw [h]at h1;simp [pk]at h1
    have hstep:dm kinds (m::rest) (own++w++[x]++w2++[y])=if(kn n.Tag x y).2 then dm kinds rest (own++w++[x]++w2++[y]++[(kn n.Tag x y).1])else some (0,201):=by
     rw [dm]
     rw [e1,aM (by simpa using n1),aM (by simpa using n2)]
     rw [eL,eR,gJ (own++w).length (by simp;omega)]
     have g1:(own++w++[x]++w2++[y])[(own++w).length]? =some x:=by
      rw [jK,jK,tH (dn _),zj];rfl
     rw [g1]
     simp only [ba]
     rw [aX (by rw [kI];omega),gJ (own++w++[x]++w2).length (by simp;omega)]
     have g2:(own++w++[x]++w2++[y])[(own++w++[x]++w2).length]? =some y:=by
      rw [tH (dn _),zj];rfl
     rw [g2]
     simp only [ba]
     unfold qL
     rw [e1,y5]
     simp only [ba]
     cases hb:(kn n.Tag x y).2 with
     |true=>
      simp only [mi,fZ,d9,eK]
      rw [bY (by simp;omega)];rfl
     |false=>rfl
    rw [hstep]
    cases hb:(kn n.Tag x y).2 with
    |true=>exact .inr ⟨(kn n.Tag x y).1,w++[x]++w2++[y],by simp,by simp;omega,by simp⟩
    |false=>exact .inl ⟨by simp,by simp⟩
def qE(m:Nat)(ns:List bm):Bool:=ns.all fun n=> !((n.Tag==2)&&decide ((m:Int)≤n.Col))
theorem KU(m:Nat)(n:bm)(ns:List bm):qE m (n::ns)=(!((n.Tag==2)&&decide ((m:Int)≤n.Col))&&qE m ns):=rfl
theorem xF(m:Nat)(t:Tr):t.wf→ ∀s,qE m (t.flat s)=true→CQ m t:=by
 induction t with
 |lf n=>
  intro _ s h ht
  simp only [qE,Tr.flat,yB,List.all_nil,yQ]at h
  have e1:(gQ n (-1) (-1)).Tag=n.Tag:=rfl
  have e2:(gQ n (-1) (-1)).Col=n.Col:=rfl
  simp [e1,e2,ht]at h
  exact h
 |un n a ih=>
  intro⟨_,ha⟩ s h
  simp only [qE,Tr.flat,List.all_append,lX]at h
  exact ih ha s h.1
 |bi n a b iha ihb=>
  intro⟨_,ha,hb⟩ s h
  simp only [qE,Tr.flat,List.all_append,lX]at h
  exact⟨iha ha s h.1.1,ihb hb _ h.1.2⟩
def yJ(kinds:List Int):Bool:=kinds.all fun k=>decide (0≤k)&&decide (k≤3)
theorem AP(k:Int)(ks:List Int):yJ (k::ks)=((decide (0≤k)&&decide (k≤3))&&yJ ks):=rfl
theorem yg(h:yJ kinds=true){k:Int}(hk:k∈kinds):k4 k:=by
 have:=jx.1 h k hk
 simp at this
 unfold k4;omega
def fC(e:bK)(kinds:List Int):Int×Int:=
 if jM e.Nodes then if yJ kinds then if qE kinds.length e.Nodes then match (mn e.Nodes).bind (kd kinds)with
  |some k=>(k,0)
  |none=>(0,201)else(0,2)else(0,2)else(0,200)
theorem Fu(e:bK)(kinds:List Int): ∀cs:List Int,mH e kinds cs=if cs.all (fun c=>decide (c<(kinds.length:Int)))then oK e (jl kinds)else some (0,2)
 |[]=>by
  unfold mH
  cases oK e (jl kinds)<;>rfl
 |c::cs=>by
  unfold mH
  rw [Fu e kinds cs]
  by_cases h:(kinds.length:Int)≤c
  ·rw [aX (by simpa using h),aM (by simp;omega)]
  ·rw [aM (by simpa using h)]
   have:c<(kinds.length:Int):=by omega
   simp [this]
theorem vS(e:bK)(kinds:List Int)(hl:e.Nodes.length≤50000):sr e kinds=some (fC e kinds):=by
 unfold sr fC
 rw [uD e (by omega)]
 cases hr:jM e.Nodes with
 |false=>rfl
 |true=>
  simp only [eK,ba]
  rw [aM (by decide)]
  have key: ∀ks:List Int,pX e kinds ks=if yJ ks then(su e).bind (mH e kinds)else some (0,2):=by
   intro ks
   induction ks with
   |nil=>rfl
   |cons k ks ih=>
    unfold pX
    rw [ih]
    by_cases h:k<0∨3<k
    ·rw [aX (by simpa using h),aM (by simp [yJ];omega)]
    ·rw [aM (by simpa using h)]
     have h1:(decide (0≤k)&&decide (k≤3))=true:=by simp;omega
     rw [AP,h1,uE]
  rw [key]
  cases hk:yJ kinds with
  |false=>rfl
  |true=>
   simp only [eK]
   obtain⟨cs,h1,h2⟩:=A4 e hr
   rw [h1,ba,Fu]
   have hci:cs.all (fun c=>decide (c<(kinds.length:Int)))=qE kinds.length e.Nodes:=by
    rw [zk]
    simp only [jx,kI,qE,CW,Bool.and_eq_false_iff,beq_eq_false_iff_ne,FK]
    constructor
    ·intro h n hn
     by_cases ht:n.Tag=2
     ·exact .inr (by have:=h _ ((h2 n.Col).2 ⟨n,hn,ht,rfl⟩);omega)
     ·exact .inl ht
    ·intro h c hc
     obtain⟨n,hn,ht,rfl⟩:=(h2 c).1 hc
     rcases h n hn with h|h
     ·exact absurd ht h
     ·omega
   rw [hci]
   cases hc:qE kinds.length e.Nodes with
   |false=>rfl
   |true=>
    simp only [eK]
    cases ht:mn e.Nodes with
    |none=>unfold jM at hr;rw [ht]at hr;cases hr
    |some t=>
     obtain⟨hw,hN,hs⟩:=jT ht
     have hct:=xF kinds.length t hw 0 (by rw [←hN];exact hc)
     have:=Ps kinds (fun k=>yg hk) t hw hct 0 [] [] (by simp;omega)
     rw [sy,←hN]at this
     unfold oK
     rw [this]
     simp only [ba]
     cases kd kinds t with
     |none=>rfl
     |some k=>rfl
theorem lh(e:bK)(kinds:List Int):sT e kinds=some (fC e kinds):=by
 unfold sT fC
 rw [xe e]
 cases hr:jM e.Nodes with
 |false=>rfl
 |true=>
  simp only [eK,ba,mi,fZ,d9]
  have key2: ∀ns:List bm,oF e kinds ns=if qE kinds.length ns then dm kinds e.Nodes []else some (0,2):=by
   intro ns
   induction ns with
   |nil=>rfl
   |cons n ns ih=>
    unfold oF
    rw [ih,KU]
    cases ((n.Tag==2)&&decide ((kinds.length:Int)≤n.Col))<;>simp
  have key: ∀ks:List Int,qK e kinds ks=if yJ ks then oF e kinds e.Nodes else some (0,2):=by
   intro ks
   induction ks with
   |nil=>rfl
   |cons k ks ih=>
    unfold qK
    rw [ih]
    by_cases h:k<0∨3<k
    ·rw [aX (by simpa using h),aM (by simp [yJ];omega)]
    ·rw [aM (by simpa using h)]
     have h1:(decide (0≤k)&&decide (k≤3))=true:=by simp;omega
     rw [AP,h1,uE]
  rw [key,key2]
  cases hk:yJ kinds with
  |false=>rfl
  |true=>
   cases hc:qE kinds.length e.Nodes with
   |false=>rfl
   |true=>
    simp only [eK]
    cases ht:mn e.Nodes with
    |none=>unfold jM at hr;rw [ht]at hr;cases hr
    |some t=>
     obtain⟨hw,hN,hs⟩:=jT ht
     have hct:=xF kinds.length t hw 0 (by rw [←hN];exact hc)
     have:=QU kinds (fun k=>yg hk) t hw hct [] [] (by simp;omega)
     rw [sy,oC,←hN]at this
     simp only [ba]
     rcases this with⟨h1,h2⟩|⟨k,w,h1,h2,h3⟩
     ·rw [h1,h2]
     ·rw [h1,h3]
      unfold dm
      have hls:t.size≤1000:=hs
      rw [kz,gJ w.length (by rw [cv (by simp<;>omega) (by simp<;>omega)];simp),tH (dn _),zj]
      rfl
def YG(n:bm):Bool:=n.Tag==4||decide (12≤n.Tag)&&decide (n.Tag≤15)

def zV:ac:=⟨0,0,0,[]⟩
def bV(b:Bool):ac:=⟨1,if b then 1 else 0,0,[]⟩
def iV(n:Int):ac:=⟨2,n,0,[]⟩
def sV(s:wF):ac:=⟨3,0,0,s⟩
def r64(n:Int):Prop:= -9223372036854775808≤n∧n≤9223372036854775807
inductive Pl:ac→Prop
 |z:Pl zV
 |b (b:Bool):Pl (bV b)
 |i (n:Int) (h:r64 n):Pl (iV n)
 |s (s:wF) (h:s.length≤40):Pl (sV s)
theorem Pl.plain(h:Pl v):mA v=true:=by
 cases h with
 |z=>rfl
 |b b=>cases b<;>rfl
 |i n h=>simp [mA,fF,dH,iV]
 |s s h=>
  have h' :(s.length:Int)≤40:=by omega
  simp [mA,fF,dH,sV,h']
theorem Pl.right(h:Pl v):fF v=true:=by
 have:=h.plain
 unfold mA at this
 rw [lX]at this
 exact this.1
theorem Ev(h:mA v=true)(hr:r64 v.N):Pl v:=by
 obtain⟨k,n,u,s⟩:=v
 unfold mA fF dH at h
 simp only [lX,qT,pE]at h
 obtain⟨h1,h2⟩:=h
 by_cases k0:k=0
 ·subst k0
  simp at h1
  rw [show(⟨0,n,u,s⟩:ac)=zV from by simp only [zV];simp [h1]]
  exact .z
 by_cases k1:k=1
 ·subst k1
  simp at h1
  obtain⟨⟨rfl,rfl⟩,h1⟩:=h1
  rcases h1 with rfl|rfl
  ·exact .b false
  ·exact .b true
 by_cases k2:k=2
 ·subst k2
  simp at h1
  obtain⟨rfl,rfl⟩:=h1
  exact .i n hr
 by_cases k3:k=3
 ·subst k3
  simp at h1
  obtain⟨⟨rfl,rfl⟩,h1⟩:=h1
  exact .s s (by omega)
 simp [k0,k1,k2,k3,h2]at h1
theorem Pl.r64(h:Pl v):r64 v.N:=by
 cases h with
 |z=>exact⟨by decide,by decide⟩
 |b b=>cases b<;>exact⟨by decide,by decide⟩
 |i n h=>exact h
 |s s h=>exact⟨by simp [sV],by simp [sV]⟩
theorem Pl.check(h:Pl v):kR v=some 0:=by rw [nG,h.right];rfl
theorem Pl.plain_eq(h:Pl v):ma v=some true:=by rw [sH,h.plain]
theorem QT{b:ac}(ha:Pl a)(hb:Pl b):pe [a,b]=some 0:=by
 unfold pe jb jb jb
 simp [ha.check,hb.check]
theorem K0{b:ac}(ha:Pl a)(hb:Pl b)(to:Int→Int→Option (Int×Bool)):rh a b to=
  if(a.Kind=0∨a.Kind=2)∧(b.Kind=0∨b.Kind=2)then(if a.Kind=0∨b.Kind=0 then some (zV,0)else(to a.N b.N).bind fun r=>if r.2 then some (iV r.1,0)else some (zV,140))else some (zV,2):=by
 unfold rh pq jQ jQ jQ
 simp only [ha.check,hb.check,ba]
 cases ha<;>cases hb<;>simp [zV,bV,iV,sV,oV,oe]
 congr 1
 funext r
 cases r.2<;>rfl
inductive Tu:ac→Prop
 |z:Tu zV
 |b (b:Bool):Tu (bV b)
theorem Tu.pl(h:Tu v):Pl v:=by cases h;exact .z;exact .b _
theorem iK(h:Pl v):Tu v↔v.Kind≤1:=by
 constructor
 ·intro h;cases h<;>simp [zV,bV]
 ·intro hk
  cases h with
  |z=>exact .z
  |b b=>exact .b b
  |i n h=>simp [iV]at hk
  |s s h=>simp [sV]at hk
def tn(v:ac):Int:=if v.Kind=0 then 1 else 2*v.N
def tv(n:Int):ac:=if n=0 then bV false else if n=1 then zV else bV true
theorem QG(h:Tu v):tn v=0∨tn v=1∨tn v=2:=by
 cases h with
 |z=>exact .inr (.inl rfl)
 |b b=>cases b;exact .inl rfl;exact .inr (.inr rfl)
theorem DP(h:Tu v):wW v=some (tn v):=by
 cases h with
 |z=>rfl
 |b b=>cases b<;>rfl
theorem QC{n:Int}(h:n=0∨n=1∨n=2):Tu (tv n):=by
 rcases h with rfl|rfl|rfl
 ·exact .b false
 ·exact .z
 ·exact .b true
theorem Mt(h:Pl v)(hn: ¬Tu v):decide (1<v.Kind)=true:=by
 rw [iK h]at hn;simp;omega
theorem Zx(h:Tu v):decide (1<v.Kind)=false:=by
 have:=(iK h.pl).1 h;simp;omega
def Fk(a b:ac):ac:=tv (min (tn a) (tn b))
def SW(a b:ac):ac:=tv (max (tn a) (tn b))
def F4(a:ac):ac:=tv (2-tn a)
theorem HB{b:ac}(ha:Tu a)(hb:Tu b):sf a b=some (Fk a b,0):=by
 cases ha with
 |z=>cases hb with
  |z=>rfl
  |b b=>cases b<;>rfl
 |b x=>cases hb with
  |z=>cases x<;>rfl
  |b b=>cases x<;>cases b<;>rfl
theorem Jj{b:ac}(ha:Tu a)(hb:Tu b):uN a b=some (SW a b,0):=by
 cases ha with
 |z=>cases hb with
  |z=>rfl
  |b b=>cases b<;>rfl
 |b x=>cases hb with
  |z=>cases x<;>rfl
  |b b=>cases x<;>cases b<;>rfl
theorem Am(ha:Tu a):qg a=some (F4 a,0):=by
 cases ha with
 |z=>rfl
 |b x=>cases x<;>rfl
theorem EO{b:ac}(ha:Pl a)(hb:Pl b)(h: ¬(Tu a∧Tu b))(to:List Int→Option Int):nE to [a,b]=some (zV,2):=by
 unfold nE
 rw [QT ha hb]
 simp only [ba]
 rw [aM (by decide)]
 unfold lC
 by_cases h1:Tu a
 ·have h2: ¬Tu b:=fun k=>h ⟨h1,k⟩
  rw [Zx h1]
  simp only [fZ,d9,DP h1,ba]
  rw [bY (by simp)]
  simp only [ba]
  unfold lC
  rw [Mt hb h2,aX rfl];rfl
 ·rw [Mt ha h1,aX rfl];rfl
theorem FN(ha:Pl a)(h: ¬Tu a):qg a=some (zV,2):=by
 unfold qg nE pe jb jb
 rw [ha.check]
 simp only [ba]
 rw [aM (by decide)]
 unfold lC
 simp only [ba]
 rw [aM (by decide),Mt ha h,aX rfl];rfl
def Ff(a b:ac):Int:=(lb a b).getD 0
theorem By{b:ac}(ha:Pl a)(hb:Pl b):lb a b=some (Ff a b):=by
 unfold Ff
 have: ∃c,lb a b=some c:=by
  unfold lb
  rw [ha.plain_eq,hb.plain_eq]
  simp only [ba,mi,Bs,eK,d9]
  unfold iD nm gw kN oN iR
  simp only [yR,ba,fZ,d9]
  have h1: ∀x y:Int,∃c,(if decide (x<y)=true then some (-1:Int)else if decide (y<x)=true then some 1 else some 0)=some c:=by
   intro x y;repeat' split
   all_goals exact⟨_,rfl⟩
  obtain⟨c1,e1⟩:=h1 a.Kind b.Kind
  obtain⟨c2,e2⟩:=h1 a.N b.N
  rw [e1,e2]
  simp only [ba]
  unfold mK fW fW fW fW
  repeat' split
  all_goals exact⟨_,rfl⟩
 obtain⟨c,h⟩:=this
 rw [h];rfl
theorem T4{b:ac}(ha:Pl a)(hb:Pl b){is:Int→Option Bool}{f:Int→Bool}(hf: ∀c,is c=some (f c)):qf a b is=
  some (if a.Kind=0∨b.Kind=0 then(zV,0)else if a.Kind=b.Kind then(bV (f (Ff a b)),0)else(zV,2)):=by
 unfold qf
 rw [QT ha hb]
 simp only [ba,By ha hb,hf,oV]
 have hbv: ∀x,oW x=some (bV x):=fun x=>by cases x<;>rfl
 simp only [hbv,ba]
 cases ha<;>cases hb<;>simp [zV,bV,iV,sV]

def A8:List (Int×(ac→ac→Option (ac×Int))):=(yk).getD []
theorem IH:yk=some A8:=rfl
def Vy(tag:Int):ac→ac→Option (ac×Int):=(kD A8 tag).getD (fun _ _=>none)
theorem dz4:Vy 4=mG yp:=rfl
theorem dz5:Vy 5=mG qg:=rfl
theorem dz6:Vy 6=nV true:=rfl
theorem dz7:Vy 7=nV false:=rfl
theorem ab4:Vy 20=lq nF:=rfl
theorem ab3:Vy 22=sf:=rfl
theorem ab2:Vy 23=uN:=rfl
def Nf(tag x y:Int):Int×Bool:=(if tag=12 then ri x y else if tag=13 then pr x y else if tag=14 then me x y else mf x y).getD (0,false)
theorem oH(n:Int):r64 (IntKind.i64.wrap n):=by rw [vu];unfold r64;omega
theorem Gr{n:Int}(h:0≤n)(h2:n<18446744073709551616):IntKind.u64.wrap n=n:=by rw [tG];omega
theorem tP(n:Int)(h:r64 n):pb n=some (n.natAbs:Int):=by
 unfold r64 at h
 unfold pb
 by_cases hn:n<0
 ·rw [aX (by simpa using hn),tG,tG]
  congr 1;omega
 ·rw [aM (by simpa using hn),tG]
  congr 1;omega
theorem WJ(tag x y:Int)(hx:r64 x)(hy:r64 y):(if tag=12 then ri x y else if tag=13 then pr x y else if tag=14 then me x y else mf x y)=some (Nf tag x y)∧r64 (Nf tag x y).1:=by
 unfold Nf
 split
 ·exact⟨rfl,oH _⟩
 ·split
  ·exact⟨rfl,oH _⟩
  ·split
   ·unfold me mU mN
    simp only [tP x hx,tP y hy,ba]
    split
    ·exact⟨rfl,oH _⟩
    ·exact⟨rfl,oH _⟩
   ·unfold mf
    by_cases h0:y=0
    ·subst h0;exact⟨rfl,show r64 0 from⟨by decide,by decide⟩⟩
    ·rw [aM (by simpa using h0)]
     simp only [tP x hx,tP y hy,ba]
     have hn:nz ((y.natAbs:Nat):Int)=some ():=by
      unfold nz
      rw [aM (by omega)]
     rw [hn]
     unfold mN
     simp only [ba]
     split
     ·exact⟨rfl,oH _⟩
     ·exact⟨rfl,oH _⟩
def wC(tag:Int)(a b:ac):ac×Int:=
 if(a.Kind=0∨a.Kind=2)∧(b.Kind=0∨b.Kind=2)then(if a.Kind=0∨b.Kind=0 then(zV,0)else if(Nf tag a.N b.N).2 then(iV (Nf tag a.N b.N).1,0)else(zV,140))else(zV,2)
def ep(f:Int→Bool)(a b:ac):ac×Int:=if a.Kind=0∨b.Kind=0 then(zV,0)else if a.Kind=b.Kind then(bV (f (Ff a b)),0)else(zV,2)
def EI(q:ac×Int):ac×Int:=if q.2=0 then(F4 q.1,0)else q
def BJ(tag:Int)(a b:ac):ac×Int:=
 if tag=4 then wC 13 (iV 0) a else
 if tag=5 then(if a.Kind≤1 then(F4 a,0)else(zV,2))else
 if tag=6 then(bV (a.Kind==0),0)else
 if tag=7 then(bV (a.Kind !=0),0)else
 if tag≤15 then wC tag a b else
 if tag=16 then ep (fun c=>c==0) a b else
 if tag=17 then EI (ep (fun c=>c==0) a b)else
 if tag=18 then ep (fun c=>decide (c<0)) a b else
 if tag=19 then EI (ep (fun c=>decide (c<0)) b a)else
 if tag=20 then ep (fun c=>decide (c<0)) b a else
 if tag=21 then EI (ep (fun c=>decide (c<0)) a b)else
 if tag=22 then(if a.Kind≤1∧b.Kind≤1 then(Fk a b,0)else(zV,2))else
 (if a.Kind≤1∧b.Kind≤1 then(SW a b,0)else(zV,2))
theorem rd(f:Int→Bool)(a b:ac):(ep f a b).2=0→Tu (ep f a b).1:=by
 unfold ep
 split
 ·intro _;exact .z
 ·split
  ·intro _;exact .b _
  ·intro h;cases h
theorem BS(f:Int→Bool)(a b:ac):(ep f a b).2≠0→ep f a b=(zV,2):=by
 unfold ep
 split
 ·intro h;exact absurd rfl h
 ·split
  ·intro h;exact absurd rfl h
  ·intro _;rfl
theorem EG{do1:ac→ac→Option (ac×Int)}{b:ac}{f:Int→Bool}{x y:ac}(h:do1 a b=some (ep f x y)):tf do1 a b=some (EI (ep f x y)):=by
 unfold tf EI
 rw [h]
 simp only [ba]
 by_cases h0:(ep f x y).2=0
 ·rw [aM (by simp [h0]),aX h0,Am (rd f x y h0)];rfl
 ·rw [aX (by simpa using h0),aM h0]
theorem Fh{b:ac}(ha:Pl a)(hb:Pl b){to:Int→Int→Option (Int×Bool)}(h: ∀x y,to x y=if tag=12 then ri x y else if tag=13 then pr x y else if tag=14 then me x y else mf x y):
  (rh a b to).bind (fun r=>some (r.1,r.2))=some (wC tag a b):=by
 rw [K0 ha hb]
 unfold wC
 split
 ·split
  ·rfl
  ·rw [h,(WJ tag a.N b.N ha.r64 hb.r64).1]
   simp only [ba]
   split<;>rfl
 ·rfl
theorem GT{b:ac}(ha:Pl a)(hb:Pl b){is:Int→Option Bool}{f:Int→Bool}(hf: ∀c,is c=some (f c)):(qf a b is).bind (fun r=>some (r.1,r.2))=some (ep f a b):=by
 rw [T4 ha hb hf];rfl
theorem wY{b:ac}(ha:Pl a)(hb:Pl b):qV a b=some (ep (fun c=>c==0) a b):=GT ha hb fun _=>rfl
theorem qJ{b:ac}(ha:Pl a)(hb:Pl b):nF a b=some (ep (fun c=>decide (c<0)) a b):=GT ha hb fun _=>rfl
theorem QY(h:pk tag=some k)(hk:k≠0):tag=4∨tag=5∨tag=6∨tag=7∨tag=12∨tag=13∨tag=14∨tag=15∨tag=16∨tag=17∨tag=18∨tag=19∨tag=20∨tag=21∨tag=22∨tag=23:=by
 unfold pk at h
 repeat' split at h
 all_goals simp at h
 ·exact absurd h.symm hk
 all_goals omega
theorem Yr(h:pk tag=some k)(hk:k≠0){b:ac}(ha:Pl a)(hb:Pl b):Vy tag a b=some (BJ tag a b):=by
 have hbv: ∀x,oW x=some (bV x):=fun x=>by cases x<;>rfl
 rcases QY h hk with rfl|rfl|rfl|rfl|rfl|rfl|rfl|rfl|rfl|rfl|rfl|rfl|rfl|rfl|rfl|rfl
 ·rw [dz4];unfold mG yp oe
  simp only [ba]
  have:=Fh (tag:=13) (Pl.i 0 ⟨by decide,by decide⟩) ha (to:=pr) (fun _ _=>rfl)
  have h2:vj (iV 0) a=some (wC 13 (iV 0) a):=this
  rw [show(⟨2,0,0,[]⟩:ac)=iV 0 from rfl,h2];rfl
 ·rw [dz5];unfold mG BJ
  rw [aM (by decide),aX rfl]
  by_cases ht:Tu a
  ·rw [Am ht,aX ((iK ha).1 ht)];rfl
  ·rw [FN ha ht,aM (fun h=>ht ((iK ha).2 h))];rfl
 ·rw [dz6];unfold nV
  rw [hbv]
  simp only [ba]
  unfold BJ
  rw [aM (by decide),aM (by decide),aX rfl]
  cases hx:(a.Kind==0)<;>rfl
 ·rw [dz7];unfold nV
  rw [hbv]
  simp only [ba]
  unfold BJ
  rw [aM (by decide),aM (by decide),aM (by decide),aX rfl]
  simp only [bne]
  cases hx:(a.Kind==0)<;>rfl
 ·exact Fh (tag:=12) ha hb fun _ _=>rfl
 ·exact Fh (tag:=13) ha hb fun _ _=>rfl
 ·exact Fh (tag:=14) ha hb fun _ _=>rfl
 ·exact Fh (tag:=15) ha hb fun _ _=>rfl
 ·exact wY ha hb
 ·exact EG (wY ha hb)
 ·exact qJ ha hb
 ·exact EG (do1:=lq nF) (by unfold lq;rw [qJ hb ha];rfl)
 ·rw [ab4];unfold lq;rw [qJ hb ha];rfl
 ·exact EG (qJ ha hb)
 ·rw [ab3]
  show _=some (if a.Kind≤1∧b.Kind≤1 then(Fk a b,0)else(zV,2))
  by_cases ht:Tu a∧Tu b
  ·rw [HB ht.1 ht.2,aX ⟨(iK ha).1 ht.1,(iK hb).1 ht.2⟩]
  ·rw [aM (fun h=>ht ⟨(iK ha).2 h.1,(iK hb).2 h.2⟩)]
   unfold sf
   rw [EO ha hb ht];rfl
 ·rw [ab2]
  show _=some (if a.Kind≤1∧b.Kind≤1 then(SW a b,0)else(zV,2))
  by_cases ht:Tu a∧Tu b
  ·rw [Jj ht.1 ht.2,aX ⟨(iK ha).1 ht.1,(iK hb).1 ht.2⟩]
  ·rw [aM (fun h=>ht ⟨(iK ha).2 h.1,(iK hb).2 h.2⟩)]
   unfold uN
   rw [EO ha hb ht];rfl
theorem YF{b:ac}(ha:Pl a)(hb:Pl b):(wC tag a b).2=0→Pl (wC tag a b).1:=by
 unfold wC
 split
 ·split
  ·intro _;exact .z
  ·split
   ·intro _;exact .i _ (WJ tag a.N b.N ha.r64 hb.r64).2
   ·intro h;cases h
 ·intro h;cases h
theorem VL(tag:Int)(a b:ac):(wC tag a b).2≠0→wC tag a b=(zV,140)∨wC tag a b=(zV,2):=by
 unfold wC
 split
 ·split
  ·intro h;exact absurd rfl h
  ·split
   ·intro h;exact absurd rfl h
   ·intro _;exact .inl rfl
 ·intro _;exact .inr rfl
theorem Dj(h:Tu a):Tu (F4 a):=by
 unfold F4
 apply QC
 have:=QG h;omega
theorem OS{b:ac}(h:Tu a)(k:Tu b):Tu (Fk a b):=by
 apply QC
 have:=QG h;have:=QG k;omega
theorem Q5{b:ac}(h:Tu a)(k:Tu b):Tu (SW a b):=by
 apply QC
 have:=QG h;have:=QG k;omega
theorem XB(f:Int→Bool)(a b:ac):(EI (ep f a b)).2=0→Tu (EI (ep f a b)).1:=by
 unfold EI
 split
 ·rename_i h;intro _;exact Dj (rd f a b h)
 ·rename_i h;intro k;exact absurd k h
theorem TJ(f:Int→Bool)(a b:ac):(EI (ep f a b)).2≠0→EI (ep f a b)=(zV,2):=by
 unfold EI
 split
 ·intro h;exact absurd rfl h
 ·rename_i h;intro _;exact BS f a b h
theorem BI(h:pk tag=some k)(hk:k≠0){b:ac}(ha:Pl a)(hb:Pl b):
  ((BJ tag a b).2=0∧Pl (BJ tag a b).1)∨BJ tag a b=(zV,2)∨(BJ tag a b=(zV,140)∧(tag=4∨(12≤tag∧tag≤15))):=by
 have har: ∀t x y,Pl x→Pl y→((wC t x y).2=0∧Pl (wC t x y).1)∨wC t x y=(zV,2)∨wC t x y=(zV,140):=by
  intro t x y hx hy
  by_cases h0:(wC t x y).2=0
  ·exact .inl ⟨h0,YF hx hy h0⟩
  ·rcases VL t x y h0 with h|h
   ·exact .inr (.inr h)
   ·exact .inr (.inl h)
 have hh: ∀f x y,((ep f x y).2=0∧Pl (ep f x y).1)∨ep f x y=(zV,2):=by
  intro f x y
  by_cases h0:(ep f x y).2=0
  ·exact .inl ⟨h0,(rd f x y h0).pl⟩
  ·exact .inr (BS f x y h0)
 have hn: ∀f x y,((EI (ep f x y)).2=0∧Pl (EI (ep f x y)).1)∨EI (ep f x y)=(zV,2):=by
  intro f x y
  by_cases h0:(EI (ep f x y)).2=0
  ·exact .inl ⟨h0,(XB f x y h0).pl⟩
  ·exact .inr (TJ f x y h0)
 rcases QY h hk with rfl|rfl|rfl|rfl|rfl|rfl|rfl|rfl|rfl|rfl|rfl|rfl|rfl|rfl|rfl|rfl
 ·rcases har 13 (iV 0) a (.i 0 ⟨by decide,by decide⟩) ha with h|h|h
  ·exact .inl h
  ·exact .inr (.inl h)
  ·exact .inr (.inr ⟨h,.inl rfl⟩)
 ·show _∨_∨_
  unfold BJ
  rw [aM (by decide),aX rfl]
  split
  ·rename_i hk;exact .inl ⟨rfl,(Dj ((iK ha).2 hk)).pl⟩
  ·exact .inr (.inl rfl)
 ·exact .inl ⟨rfl,.b _⟩
 ·exact .inl ⟨rfl,.b _⟩
 ·rcases har 12 a b ha hb with h|h|h
  ·exact .inl h
  ·exact .inr (.inl h)
  ·exact .inr (.inr ⟨h,by decide⟩)
 ·rcases har 13 a b ha hb with h|h|h
  ·exact .inl h
  ·exact .inr (.inl h)
  ·exact .inr (.inr ⟨h,by decide⟩)
 ·rcases har 14 a b ha hb with h|h|h
  ·exact .inl h
  ·exact .inr (.inl h)
  ·exact .inr (.inr ⟨h,by decide⟩)
 ·rcases har 15 a b ha hb with h|h|h
  ·exact .inl h
  ·exact .inr (.inl h)
  ·exact .inr (.inr ⟨h,by decide⟩)
 ·exact(hh (fun c=>c==0) a b).imp_right .inl
 ·exact(hn (fun c=>c==0) a b).imp_right .inl
 ·exact(hh (fun c=>decide (c<0)) a b).imp_right .inl
 ·exact(hn (fun c=>decide (c<0)) b a).imp_right .inl
 ·exact(hh (fun c=>decide (c<0)) b a).imp_right .inl
 ·exact(hn (fun c=>decide (c<0)) a b).imp_right .inl
 ·show _∨_∨_
  rw [show BJ 22 a b=if a.Kind≤1∧b.Kind≤1 then(Fk a b,0)else(zV,2)from rfl]
  split
  ·rename_i h;exact .inl ⟨rfl,(OS ((iK ha).2 h.1) ((iK hb).2 h.2)).pl⟩
  ·exact .inr (.inl rfl)
 ·show _∨_∨_
  rw [show BJ 23 a b=if a.Kind≤1∧b.Kind≤1 then(SW a b,0)else(zV,2)from rfl]
  split
  ·rename_i h;exact .inl ⟨rfl,(Q5 ((iK ha).2 h.1) ((iK hb).2 h.2)).pl⟩
  ·exact .inr (.inl rfl)

def dz(tag:Int)(a b:ac):ac×Int:=if(BJ tag a b).2=0 then BJ tag a b else(zV,if(BJ tag a b).2=140 then 140 else 201)
def CT(q:ac×Int)(f:ac→ac×Int):ac×Int:=if q.2=0 then f q.1 else q
def ev(r:List ac):Tr→ac×Int
 | .lf n=>if n.Tag=1 then(n.Value,0)else((r[n.Col.toNat]?).getD zV,0)
 | .un n a=>CT (ev r a) fun x=>dz n.Tag x x
 | .bi n a b=>CT (ev r a) fun x=>CT (ev r b) fun y=>dz n.Tag x y
def SV:Tr→Prop
 | .lf n=>r64 n.Value.N
 | .un _ a=>SV a
 | .bi _ a b=>SV a∧SV b
def xE(r:List ac):Tr→Prop
 | .lf n=>n.Tag=2→n.Col.toNat<r.length∧ ∃v,r[n.Col.toNat]? =some v∧Pl v
 | .un _ a=>xE r a
 | .bi _ a b=>xE r a∧xE r b
theorem vg(h:pk tag=some k)(hk:k≠0){b:ac}(ha:Pl a)(hb:Pl b):
  ((dz tag a b).2=0∧Pl (dz tag a b).1∧dz tag a b=BJ tag a b)∨(dz tag a b=(zV,201)∧BJ tag a b=(zV,2))∨(dz tag a b=(zV,140)∧BJ tag a b=(zV,140)∧(tag=4∨(12≤tag∧tag≤15))):=by
 unfold dz
 rcases BI h hk ha hb with⟨h1,h2⟩|h1|⟨h1,h2⟩
 ·rw [aX h1];exact .inl ⟨h1,h2,rfl⟩
 ·rw [h1];exact .inr (.inl ⟨rfl,rfl⟩)
 ·rw [h1];exact .inr (.inr ⟨rfl,rfl,h2⟩)
theorem OA(r:List ac)(n:bm)(a:Tr):ev r (.un n a)=CT (ev r a) fun x=>dz n.Tag x x:=rfl
theorem OB(r:List ac)(n:bm)(a b:Tr):ev r (.bi n a b)=CT (ev r a) fun x=>CT (ev r b) fun y=>dz n.Tag x y:=rfl
theorem m6{q:ac×Int}{f:ac→ac×Int}(h:q.2=0):CT q f=f q.1:=aX h
theorem iU{q:ac×Int}{f:ac→ac×Int}(h:q.2≠0):CT q f=q:=aM h
theorem m4(r:List ac)(t:Tr):t.wf→SV t→xE r t→((ev r t).2=0∧Pl (ev r t).1)∨ev r t=(zV,201)∨ev r t=(zV,140):=by
 induction t with
 |lf n=>
  intro⟨h1,h2,_,_⟩ hr hc
  unfold ev
  split
  ·rename_i ht;exact .inl ⟨rfl,Ev (ZY h2 ht) hr⟩
  ·rename_i ht
   have ht2:n.Tag=2:=(YN h1).resolve_left ht
   obtain⟨_,v,hv,hp⟩:=hc ht2
   rw [hv];exact .inl ⟨rfl,hp⟩
 |un n a ih=>
  intro⟨⟨h1,_,_,_⟩,ha⟩ hr hc
  rw [OA]
  rcases ih ha hr hc with⟨h2,h3⟩|h2|h2
  ·rw [m6 h2]
   rcases vg h1 (by decide) h3 h3 with⟨h4,h5,_⟩|⟨h4,_⟩|⟨h4,_⟩
   ·exact .inl ⟨h4,h5⟩
   ·exact .inr (.inl h4)
   ·exact .inr (.inr h4)
  ·rw [h2,iU (by decide)];exact .inr (.inl rfl)
  ·rw [h2,iU (by decide)];exact .inr (.inr rfl)
 |bi n a b iha ihb=>
  intro⟨⟨h1,_,_,_⟩,ha,hb⟩ ⟨hra,hrb⟩ ⟨hca,hcb⟩
  rw [OB]
  rcases iha ha hra hca with⟨h2,h3⟩|h2|h2
  ·rw [m6 h2]
   rcases ihb hb hrb hcb with⟨k2,k3⟩|k2|k2
   ·rw [m6 k2]
    rcases vg h1 (by decide) h3 k3 with⟨h4,h5,_⟩|⟨h4,_⟩|⟨h4,_⟩
    ·exact .inl ⟨h4,h5⟩
    ·exact .inr (.inl h4)
    ·exact .inr (.inr h4)
   ·rw [k2,iU (by decide)];exact .inr (.inl rfl)
   ·rw [k2,iU (by decide)];exact .inr (.inr rfl)
  ·rw [h2,iU (by decide)];exact .inr (.inl rfl)
  ·rw [h2,iU (by decide)];exact .inr (.inr rfl)
theorem H6(stack l:List ac)(h:stack.length+l.length≤100000):ku (stack++l) (l.length:Int)=some (l,stack):=by
 unfold ku fy
 have e:IntKind.i64.wrap (((stack++l).length:Int)-(l.length:Int))=(stack.length:Int):=by
  rw [iF,cv (by omega) (by omega)];omega
 rw [e,iO stack.length (stack++l).length rfl rfl (by simp) (dn _)]
 simp only [ba,wS,Gp (dn _),List.drop_length,kz]
 rw [bY (by simp;omega)]
 simp only [ba,kz]
 rw [iO (i:=0) 0 stack.length rfl rfl (lw _) (by simp)]
 simp
theorem yc(stack:List ac){b:Int}(h:b≠0):gj b stack=some (zV,b):=by
 unfold gj;rw [aX (by simpa using h)];rfl
theorem Hm(r:List ac)(n:bm)(h:pk n.Tag=some k)(hk:k≠0){b:ac}(ha:Pl a)(hb:Pl b){l:List ac}(h0:cR l 0=some a)(h1:cR l (IntKind.i64.wrap ((l.length:Int)-1))=some b):
  iC r A8 n l=some ((BJ n.Tag a b).1,(dz n.Tag a b).2):=by
 have hn:=QY h hk
 unfold iC
 rw [aM (by simp;omega),aM (by simp;omega),h0]
 simp only [ba]
 rw [h1]
 simp only [ba]
 have:=Yr h hk ha hb
 unfold Vy at this
 rw [this]
 simp only [ba]
 unfold pY
 rcases vg h hk ha hb with⟨h2,_,h4⟩|⟨h2,h4⟩|⟨h2,h4,_⟩
 ·rw [h4]at h2;rw [h4,h2];rfl
 ·rw [h2,h4];rfl
 ·rw [h2,h4];rfl
theorem Mk(r:List ac)(t:Tr):t.wf→SV t→xE r t→ ∀(s:Nat) (rest:List bm) (stack:List ac),stack.length+t.size≤50000→
  dF (iC r A8) (t.flat s++rest) 0 stack=if(ev r t).2=0 then dF (iC r A8) rest 0 (stack++[(ev r t).1])else some (zV,(ev r t).2):=by
 induction t with
 |lf n=>
  intro⟨h1,h2,h3,h4⟩ hr hc s rest stack hl
  simp only [Tr.flat,Tr.size,wI,kz]at hl ⊢
  rw [dF]
  have e1:(gQ n (-1) (-1)).Tag=n.Tag:=rfl
  rw [e1,nl h1]
  have h0:=H6 stack [] (by simp;omega)
  simp only [sy,oC]at h0
  simp only [ba]
  rw [h0]
  simp only [ba]
  have hv:iC r A8 (gQ n (-1) (-1)) []=some (ev r (.lf n)):=by
   unfold iC ev
   simp only [e1]
   rcases YN h1 with ht|ht
   ·rw [aX (by simp [ht]),aX ht];rfl
   ·rw [aM (by simp [ht]),aX (by simp [ht]),aM (by simp [ht])]
    have hb:=MZ h2 ht
    obtain⟨hm,v,hv,_⟩:=hc ht
    have e2:(gQ n (-1) (-1)).Col=n.Col:=rfl
    rw [e2,gJ n.Col.toNat (by omega),hv]
    rfl
  have e0:(ev r (.lf n)).2=0:=by unfold ev;split<;>rfl
  rw [hv,aX e0]
  simp only [ba,e0]
  rw [aM (by simp),bY (by simp;omega)]
  rfl
 |un n a ih=>
  intro⟨⟨h1,h2,h3,h4⟩,ha⟩ hr hc s rest stack hl
  simp only [Tr.flat,Tr.size,jK]at hl ⊢
  rw [OA,ih ha hr hc s _ stack (by omega)]
  by_cases hx:(ev r a).2=0
  ·have hp:Pl (ev r a).1:=by
    rcases m4 r a ha hr hc with⟨_,h⟩|h|h
    ·exact h
    ·rw [h]at hx;cases hx
    ·rw [h]at hx;cases hx
   rw [aX hx,m6 hx]
   generalize (ev r a).1=x at hp
   simp only [wI,kz]
   rw [dF]
   have e1:(gQ n (((s+a.size:Nat):Int)-1) (-1)).Tag=n.Tag:=rfl
   rw [e1,nl h1]
   have h0:=H6 stack [x] (by simp;omega)
   simp only [ba]
   have e0:(([x]:List ac).length:Int)=((1:Nat):Int):=rfl
   rw [←e0,h0]
   simp only [ba]
   rw [Hm r (gQ n (((s+a.size:Nat):Int)-1) (-1)) (k:=1) h1 (by decide) hp hp rfl rfl]
   simp only [ba,e1]
   rcases vg h1 (by decide) hp hp with⟨h5,_,h6⟩|⟨h5,_⟩|⟨h5,_⟩
   ·rw [aM (by simp [h5]),aX h5,bY (by simp;omega),h6];rfl
   ·rw [h5,aX (by decide),yc _ (by decide),aM (by decide)]
   ·rw [h5,aX (by decide),yc _ (by decide),aM (by decide)]
  ·rw [aM hx,iU hx,aM hx]
 |bi n a b iha ihb=>
  intro⟨⟨h1,h2,h3,h4⟩,ha,hb⟩ ⟨hra,hrb⟩ ⟨hca,hcb⟩ s rest stack hl
  simp only [Tr.flat,Tr.size,jK]at hl ⊢
  rw [OB,iha ha hra hca s _ stack (by omega)]
  by_cases hx:(ev r a).2=0
  ·have hp:Pl (ev r a).1:=by
    rcases m4 r a ha hra hca with⟨_,h⟩|h|h
    ·exact h
    ·rw [h]at hx;cases hx
    ·rw [h]at hx;cases hx
   rw [aX hx,m6 hx]
   generalize (ev r a).1=x at hp
   rw [ihb hb hrb hcb (s+a.size) _ (stack++[x]) (by have:=a.size_pos;simp;omega)]
   by_cases hy:(ev r b).2=0
   ·have hq:Pl (ev r b).1:=by
     rcases m4 r b hb hrb hcb with⟨_,h⟩|h|h
     ·exact h
     ·rw [h]at hy;cases hy
     ·rw [h]at hy;cases hy
    rw [aX hy,m6 hy]
    generalize (ev r b).1=y at hq
    have hap:=a.size_pos
    simp only [wI,kz]
    rw [dF]
    have e1:(gQ n (((s+a.size:Nat):Int)-1) (((s+a.size+b.size:Nat):Int)-1)).Tag=n.Tag:=rfl
    rw [e1,nl h1]
    have h0:=H6 stack [x,y] (by simp;omega)
    simp only [ba]
    have e0:(([x,y]:List ac).length:Int)=((2:Nat):Int):=rfl
    have e9:stack++[x]++[y]=stack++[x,y]:=by simp
    rw [←e0,e9,h0]
    simp only [ba]
    rw [Hm r (gQ n (((s+a.size:Nat):Int)-1) (((s+a.size+b.size:Nat):Int)-1)) (k:=2) h1 (by decide) hp hq rfl rfl]
    simp only [ba,e1]
    rcases vg h1 (by decide) hp hq with⟨h5,_,h6⟩|⟨h5,_⟩|⟨h5,_⟩
    ·rw [aM (by simp [h5]),aX h5,bY (by simp;omega),h6];rfl
    ·rw [h5,aX (by decide),yc _ (by decide),aM (by decide)]
    ·rw [h5,aX (by decide),yc _ (by decide),aM (by decide)]
   ·rw [aM hy,iU hy,aM hy]
  ·rw [aM hx,iU hx,aM hx]
def yN(r:List ac)(c:Int):Bool:=decide (c<(r.length:Int))&&mA ((r[c.toNat]?).getD zV)
def tk(r:List ac)(ns:List bm):Bool:=ns.all fun n=> !(n.Tag==2)||yN r n.Col
def JI(ns:List bm):Prop:= ∀n∈ns,r64 n.Value.N
def Tp(r:List ac):Prop:= ∀v∈r,r64 v.N
theorem PV(hr:Tp r){c:Int}(h0:0≤c)(h:yN r c=true):c.toNat<r.length∧ ∃v,r[c.toNat]? =some v∧Pl v:=by
 unfold yN at h
 rw [lX,kI]at h
 have hlt:c.toNat<r.length:=by omega
 refine⟨hlt,r[c.toNat],ox hlt,?_⟩
 have h2:=h.2
 rw [ox hlt]at h2
 exact Ev h2 (hr _ (List.getElem_mem hlt))
theorem vX(hr:Tp r)(t:Tr):t.wf→ ∀s,tk r (t.flat s)=true→xE r t:=by
 induction t with
 |lf n=>
  intro⟨_,h2,_,_⟩ s h ht
  simp only [tk,Tr.flat,yB,List.all_nil,yQ]at h
  have e1:(gQ n (-1) (-1)).Tag=n.Tag:=rfl
  have e2:(gQ n (-1) (-1)).Col=n.Col:=rfl
  rw [e1,e2,ht]at h
  exact PV hr (MZ h2 ht).1 (by simpa using h)
 |un n a ih=>
  intro⟨_,ha⟩ s h
  simp only [tk,Tr.flat,List.all_append,lX]at h
  exact ih ha s h.1
 |bi n a b iha ihb=>
  intro⟨_,ha,hb⟩ s h
  simp only [tk,Tr.flat,List.all_append,lX]at h
  exact⟨iha ha s h.1.1,ihb hb _ h.1.2⟩
theorem AA(t:Tr): ∀s,JI (t.flat s)→SV t:=by
 induction t with
 |lf n=>intro s h;exact h (gQ n (-1) (-1)) (by simp [Tr.flat])
 |un n a ih=>intro s h;exact ih s fun m hm=>h m (by simp [Tr.flat,hm])
 |bi n a b iha ihb=>intro s h;exact⟨iha s fun m hm=>h m (by simp [Tr.flat,hm]),ihb _ fun m hm=>h m (by simp only [Tr.flat,Aa];exact .inl (.inr hm))⟩
theorem DW{t:Tr}(hw:t.wf): ∀s {n:bm},n∈t.flat s→n.Tag=2→0≤n.Col∧n.Col<16:=by
 induction t with
 |lf m=>
  intro s n hn ht
  simp only [Tr.flat,CX]at hn
  subst hn
  exact MZ hw.2.1 ht
 |un m a ih=>
  intro s n hn ht
  simp only [Tr.flat,Aa,CX]at hn
  rcases hn with hn|rfl
  ·exact ih hw.2 s hn ht
  ·exact absurd (pk2 hw.1.1 ht) (by decide)
 |bi m a b iha ihb=>
  intro s n hn ht
  simp only [Tr.flat,Aa,CX]at hn
  rcases hn with(hn|hn)|rfl
  ·exact iha hw.2.1 s hn ht
  ·exact ihb hw.2.2 _ hn ht
  ·exact absurd (pk2 hw.1.1 ht) (by decide)
def oB(r:List ac)(ns:List bm):ac×Int:=match mn ns with
 |none=>(zV,200)
 |some t=>if tk r ns then ev r t else(zV,2)
theorem Fy(e:bK)(r:List ac)(x:ac): ∀cs:List Int,(∀c∈cs,0≤c)→oo e r cs x=if cs.all (yN r)then ir e (iC r A8)else some (zV,2)
 |[],_=>by
  unfold oo
  rw [IH]
  simp only [ba]
  cases ir e (iC r A8)<;>rfl
 |c::cs,hc=>by
  unfold oo
  rw [Fy e r x cs fun c hm=>hc c (ky _ hm)]
  have h0:=hc c (kE ..)
  by_cases h:(r.length:Int)≤c
  ·have hb:yN r c=false:=by unfold yN;rw [Bool.and_eq_false_iff];left;simp;omega
   simp [h,hb,zV]
  ·have hlt:c.toNat<r.length:=by omega
   have e1:cR r c=some r[c.toNat]:=by rw [gJ c.toNat (by omega),ox hlt]
   have hb:yN r c=mA r[c.toNat]:=by
    unfold yN
    rw [ox hlt]
    have:decide (c<(r.length:Int))=true:=by simp;omega
    rw [this];rfl
   rw [aX (by simpa using h),e1]
   simp only [ba,sH]
   rw [yB,hb]
   cases mA r[c.toNat]<;>simp [zV]
theorem JZ(r:List ac){t:Tr}(hw:t.wf)(hr:SV t)(hc:xE r t)(hs:t.size≤1000):ir ⟨t.flat 0⟩ (iC r A8)=some (ev r t):=by
 unfold ir
 have h:=Mk r t hw hr hc 0 [] [] (by simp;omega)
 rw [sy]at h
 rw [h]
 rcases m4 r t hw hr hc with⟨h2,h3⟩|h2|h2
 ·rw [aX h2]
  unfold dF gj
  rw [aM (by simp)]
  simp only [kz]
  rw [show cR [(ev r t).1] 0=some (ev r t).1 from rfl]
  simp only [ba]
  congr 1
  exact Prod.ext rfl h2.symm
 ·rw [h2,aM (by decide)]
 ·rw [h2,aM (by decide)]
theorem vT(e:bK)(r:List ac)(hl:e.Nodes.length≤50000)(he:JI e.Nodes)(hr:Tp r):ss e r=some (oB r e.Nodes):=by
 unfold ss oB
 rw [uD e (by omega)]
 cases ht:mn e.Nodes with
 |none=>
  have:jM e.Nodes=false:=by unfold jM;rw [ht];rfl
  rw [this];rfl
 |some t=>
  have hri:jM e.Nodes=true:=by unfold jM;rw [ht];rfl
  obtain⟨hw,hN,hs⟩:=jT ht
  rw [hri]
  simp only [eK,ba]
  rw [aM (by decide)]
  obtain⟨cs,h1,h2⟩:=A4 e hri
  rw [h1]
  simp only [ba]
  have hcnt: ∀n∈e.Nodes,n.Tag=2→0≤n.Col:=fun n hn htag=>by
   rw [hN]at hn
   exact(DW hw 0 hn htag).1
  rw [Fy e r _ cs fun c hc=>by obtain⟨n,hn,htag,rfl⟩:=(h2 c).1 hc;exact hcnt n hn htag]
  have hcols:cs.all (yN r)=tk r e.Nodes:=by
   rw [zk,jx]
   unfold tk
   rw [jx]
   constructor
   ·intro h n hn
    by_cases htag:n.Tag=2
    ·rw [h n.Col ((h2 _).2 ⟨n,hn,htag,rfl⟩)];simp
    ·simp [htag]
   ·intro h c hc
    obtain⟨n,hn,htag,rfl⟩:=(h2 c).1 hc
    have:=h n hn
    simpa [htag] using this
  rw [hcols]
  cases hb:tk r e.Nodes with
  |false=>rfl
  |true=>
   simp only [eK]
   have e9:e=⟨t.flat 0⟩:=by cases e;simp only at hN;rw [hN]
   rw [hN]at he hb
   rw [e9]
   exact JZ r hw (AA t 0 he) (vX hr t hw 0 hb) hs


variable{ka kb:Int}
theorem Kr(ht:tag=4∨tag=12∨tag=13∨tag=14∨tag=15):kn tag ka kb=(2,(ka==2||ka==0)&&(kb==2||kb==0)):=by
 rcases ht with rfl|rfl|rfl|rfl|rfl<;>(unfold kn iP ie;cases (ka==2||ka==0)<;>cases (kb==2||kb==0)<;>rfl)
theorem Rn(ht:tag=5∨tag=22∨tag=23):kn tag ka kb=(1,(ka==1||ka==0)&&(kb==1||kb==0)):=by
 rcases ht with rfl|rfl|rfl<;>(unfold kn iP ie;cases (ka==1||ka==0)<;>cases (kb==1||kb==0)<;>rfl)
def qt(v:ac)(k:Int):Prop:=v.Kind=k∨v.Kind=0
theorem JO(h:pk tag=some k)(hk:k≠0){b:ac}(ha:Pl a)(hb:Pl b)(h1:qt a ka)(h2:k=1∧b=a∧kb=0∨k=2∧qt b kb)(hn:(kn tag ka kb).2=true):
  ((BJ tag a b).2=0∧qt (BJ tag a b).1 (kn tag ka kb).1)∨BJ tag a b=(zV,140):=by
 have har: ∀t x y,qt x 2→qt y 2→((wC t x y).2=0∧qt (wC t x y).1 2)∨wC t x y=(zV,140):=by
  intro t x y hx hy
  unfold wC
  rw [aX ⟨hx.symm,hy.symm⟩]
  split
  ·exact .inl ⟨rfl,.inr rfl⟩
  ·split
   ·exact .inl ⟨rfl,.inl rfl⟩
   ·exact .inr rfl
 have hbv: ∀x,(bV x).Kind=1:=fun _=>rfl
 have htv: ∀{v},Tu v→qt v 1:=fun h=>by cases h;exact .inr rfl;exact .inl rfl
 have hh: ∀f,(a.Kind=b.Kind∨a.Kind=0∨b.Kind=0)→(ep f a b).2=0∧(ep f b a).2=0:=by
  intro f hx
  unfold ep
  constructor
  ·split
   ·rfl
   ·rw [aX (by rename_i h9;simp only [not_or]at h9;rcases hx with h|h|h;exact h;exact absurd h h9.1;exact absurd h h9.2)]
  ·split
   ·rfl
   ·rw [aX (by rename_i h9;simp only [not_or]at h9;rcases hx with h|h|h;exact h.symm;exact absurd h h9.2;exact absurd h h9.1)]
 have hkk:k=2→(ka=kb∨ka=0∨kb=0)→(a.Kind=b.Kind∨a.Kind=0∨b.Kind=0):=by
  intro h9 h
  rcases h2 with⟨h5,_⟩|⟨_,h2⟩
  ·omega
  unfold qt at h1 h2
  rcases h with h|h|h<;>rcases h1 with h1|h1<;>rcases h2 with h2|h2<;>simp_all
 have hno: ∀f x y,(ep f x y).2=0→(EI (ep f x y)).2=0∧qt (EI (ep f x y)).1 1:=by
  intro f x y h9
  unfold EI
  rw [aX h9]
  exact⟨rfl,htv (Dj (rd f x y h9))⟩
 have h3:k=2→qt b kb:=by intro h9;rcases h2 with⟨h5,_⟩|⟨_,h2⟩;omega;exact h2
 have h10: ∀{x:ac} {kx:Int},qt x kx→kx=2∨kx=0→qt x 2:=by
  intro x kx h h';unfold qt at*;omega
 have h11: ∀{x:ac} {kx:Int},qt x kx→kx=1∨kx=0→x.Kind≤1:=by
  intro x kx h h';unfold qt at*;omega
 rcases QY h hk with rfl|rfl|rfl|rfl|rfl|rfl|rfl|rfl|rfl|rfl|rfl|rfl|rfl|rfl|rfl|rfl
 ·rw [Kr (by decide)]at hn ⊢
  have hx:ka=2∨ka=0:=by simp at hn;exact hn.1
  have:=har 13 (iV 0) a (.inl rfl) (h10 h1 hx)
  exact this
 ·rw [Rn (by decide)]at hn ⊢
  have hx:ka=1∨ka=0:=by simp at hn;exact hn.1
  have e:BJ 5 a b=(F4 a,0):=by
   show(if a.Kind≤1 then(F4 a,0)else(zV,2))=_
   rw [aX (h11 h1 hx)]
  rw [e];exact .inl ⟨rfl,htv (Dj ((iK ha).2 (h11 h1 hx)))⟩
 ·exact .inl ⟨rfl,.inl rfl⟩
 ·exact .inl ⟨rfl,.inl rfl⟩
 all_goals have hk2:k=2:=by simp [pk]at h;omega
 all_goals have hb3:=h3 hk2
 ·rw [Kr (by decide)]at hn ⊢
  have hx:(ka=2∨ka=0)∧(kb=2∨kb=0):=by simp at hn;exact hn
  exact har 12 a b (h10 h1 hx.1) (h10 hb3 hx.2)
 ·rw [Kr (by decide)]at hn ⊢
  have hx:(ka=2∨ka=0)∧(kb=2∨kb=0):=by simp at hn;exact hn
  exact har 13 a b (h10 h1 hx.1) (h10 hb3 hx.2)
 ·rw [Kr (by decide)]at hn ⊢
  have hx:(ka=2∨ka=0)∧(kb=2∨kb=0):=by simp at hn;exact hn
  exact har 14 a b (h10 h1 hx.1) (h10 hb3 hx.2)
 ·rw [Kr (by decide)]at hn ⊢
  have hx:(ka=2∨ka=0)∧(kb=2∨kb=0):=by simp at hn;exact hn
  exact har 15 a b (h10 h1 hx.1) (h10 hb3 hx.2)
 ·have hx:ka=kb∨ka=0∨kb=0:=by simp [kn,iP,ie]at hn;omega
  have:=(hh (fun c=>c==0) (hkk hk2 hx)).1
  exact .inl ⟨this,htv (rd _ a b this)⟩
 ·have hx:ka=kb∨ka=0∨kb=0:=by simp [kn,iP,ie]at hn;omega
  exact .inl (hno (fun c=>c==0) a b (hh _ (hkk hk2 hx)).1)
 ·have hx:ka=kb∨ka=0∨kb=0:=by simp [kn,iP,ie]at hn;omega
  have:=(hh (fun c=>decide (c<0)) (hkk hk2 hx)).1
  exact .inl ⟨this,htv (rd _ a b this)⟩
 ·have hx:ka=kb∨ka=0∨kb=0:=by simp [kn,iP,ie]at hn;omega
  exact .inl (hno (fun c=>decide (c<0)) b a (hh _ (hkk hk2 hx)).2)
 ·have hx:ka=kb∨ka=0∨kb=0:=by simp [kn,iP,ie]at hn;omega
  have:=(hh (fun c=>decide (c<0)) (hkk hk2 hx)).2
  exact .inl ⟨this,htv (rd _ b a this)⟩
 ·have hx:ka=kb∨ka=0∨kb=0:=by simp [kn,iP,ie]at hn;omega
  exact .inl (hno (fun c=>decide (c<0)) a b (hh _ (hkk hk2 hx)).1)
 ·rw [Rn (by decide)]at hn ⊢
  have hx:(ka=1∨ka=0)∧(kb=1∨kb=0):=by simp at hn;exact hn
  have e:BJ 22 a b=(Fk a b,0):=by
   show(if a.Kind≤1∧b.Kind≤1 then(Fk a b,0)else(zV,2))=_
   rw [aX ⟨h11 h1 hx.1,h11 hb3 hx.2⟩]
  rw [e];exact .inl ⟨rfl,htv (OS ((iK ha).2 (h11 h1 hx.1)) ((iK hb).2 (h11 hb3 hx.2)))⟩
 ·rw [Rn (by decide)]at hn ⊢
  have hx:(ka=1∨ka=0)∧(kb=1∨kb=0):=by simp at hn;exact hn
  have e:BJ 23 a b=(SW a b,0):=by
   show(if a.Kind≤1∧b.Kind≤1 then(SW a b,0)else(zV,2))=_
   rw [aX ⟨h11 h1 hx.1,h11 hb3 hx.2⟩]
  rw [e];exact .inl ⟨rfl,htv (Q5 ((iK ha).2 (h11 h1 hx.1)) ((iK hb).2 (h11 hb3 hx.2)))⟩
def kindR(kinds:List Int)(r:List ac):Prop:= ∀(j:Nat) (k:Int),kinds[j]? =some k→ ∃v,r[j]? =some v∧Pl v∧qt v k
theorem Zu(hk4: ∀k∈kinds,k4 k)(hr:kindR kinds r)(t:Tr):t.wf→SV t→xE r t→CQ kinds.length t→ ∀{k},kd kinds t=some k→
  ((ev r t).2=0∧qt (ev r t).1 k)∨(ev r t=(zV,140)∧ ∀s,(t.flat s).any YG=true):=by
 induction t with
 |lf n=>
  intro⟨h1,h2,_,_⟩ hg hc hcT k hk
  unfold kd at hk
  unfold ev
  split at hk
  ·rename_i ht;rw [aX ht];cases hk;exact .inl ⟨rfl,.inl rfl⟩
  ·rename_i ht
   have ht2:n.Tag=2:=(YN h1).resolve_left ht
   have hlt:=hcT ht2
   have h0:=(MZ h2 ht2).1
   rw [aM ht]
   have hgk:kinds[n.Col.toNat]? =some k:=by
    rw [ox (by omega)]at hk ⊢
    simpa using hk
   obtain⟨v,h3,h4,h5⟩:=hr _ _ hgk
   rw [h3];exact .inl ⟨rfl,h5⟩
 |un n a ih=>
  intro⟨⟨h1,_,_,_⟩,ha⟩ hg hc hcT k hk
  rw [N1]at hk
  cases hx:kd kinds a with
  |none=>rw [hx]at hk;cases hk
  |some x=>
   rw [hx,ba]at hk
   split at hk
   ·rename_i hkn
    cases hk
    rw [OA]
    rcases ih ha hg hc hcT hx with⟨h2,h3⟩|⟨h2,h3⟩
    ·rw [m6 h2]
     have hp:Pl (ev r a).1:=by
      rcases m4 r a ha hg hc with⟨_,h⟩|h|h
      ·exact h
      ·rw [h]at h2;cases h2
      ·rw [h]at h2;cases h2
     unfold dz
     rcases JO h1 (by decide) hp hp h3 (.inl ⟨rfl,rfl,rfl⟩) hkn with⟨h4,h5⟩|h4
     ·rw [aX h4];exact .inl ⟨h4,h5⟩
     ·rcases BI h1 (by decide) hp hp with⟨h6,_⟩|h6|⟨_,h6⟩
      ·rw [h4]at h6;cases h6
      ·rw [h4]at h6;cases h6
      ·rw [h4]
       exact .inr ⟨rfl,fun s=>by simp only [Tr.flat,Ge,wO,List.any_nil,Bool.or_false,p9];right;simp only [YG];have:(gQ n (((s+a.size:Nat):Int)-1) (-1)).Tag=n.Tag:=rfl;rw [this];simp;omega⟩
    ·rw [h2,iU (by decide)]
     exact .inr ⟨rfl,fun s=>by simp only [Tr.flat,Ge,p9];exact .inl (h3 s)⟩
   ·cases hk
 |bi n a b iha ihb=>
  intro⟨⟨h1,_,_,_⟩,ha,hb⟩ ⟨hga,hgb⟩ ⟨hca,hcb⟩ ⟨hTa,hTb⟩ k hk
  rw [Kz]at hk
  cases hx:kd kinds a with
  |none=>rw [hx]at hk;cases hk
  |some x=>
   cases hy:kd kinds b with
   |none=>rw [hx,hy]at hk;cases hk
   |some y=>
    rw [hx,hy]at hk
    simp only [ba]at hk
    split at hk
    ·rename_i hkn
     cases hk
     rw [OB]
     rcases iha ha hga hca hTa hx with⟨h2,h3⟩|⟨h2,h3⟩
     ·rw [m6 h2]
      have hp:Pl (ev r a).1:=by
       rcases m4 r a ha hga hca with⟨_,h⟩|h|h
       ·exact h
       ·rw [h]at h2;cases h2
       ·rw [h]at h2;cases h2
      rcases ihb hb hgb hcb hTb hy with⟨q2,q3⟩|⟨q2,q3⟩
      ·rw [m6 q2]
       have hq:Pl (ev r b).1:=by
        rcases m4 r b hb hgb hcb with⟨_,h⟩|h|h
        ·exact h
        ·rw [h]at q2;cases q2
        ·rw [h]at q2;cases q2
       unfold dz
       rcases JO h1 (by decide) hp hq h3 (.inr ⟨rfl,q3⟩) hkn with⟨h4,h5⟩|h4
       ·rw [aX h4];exact .inl ⟨h4,h5⟩
       ·rcases BI h1 (by decide) hp hq with⟨h6,_⟩|h6|⟨_,h6⟩
        ·rw [h4]at h6;cases h6
        ·rw [h4]at h6;cases h6
        ·rw [h4]
         exact .inr ⟨rfl,fun s=>by simp only [Tr.flat,Ge,wO,List.any_nil,Bool.or_false,p9];right;simp only [YG];have:(gQ n (((s+a.size:Nat):Int)-1) (((s+a.size+b.size:Nat):Int)-1)).Tag=n.Tag:=rfl;rw [this];simp;omega⟩
      ·rw [q2,iU (by decide)]
       exact .inr ⟨rfl,fun s=>by simp only [Tr.flat,Ge,p9];exact .inl (.inr (q3 _))⟩
     ·rw [h2,iU (by decide)]
      exact .inr ⟨rfl,fun s=>by simp only [Tr.flat,Ge,p9];exact .inl (.inl (h3 s))⟩
    ·cases hk
theorem Ro{e:bK}(h:(fC e kinds).2=0): ∃t,mn e.Nodes=some t∧(∀k∈kinds,k4 k)∧qE kinds.length e.Nodes=true∧kd kinds t=some (fC e kinds).1:=by
 unfold fC at h ⊢
 split at h
 ·rename_i h1
  rw [aX h1]
  split at h
  ·rename_i h2
   rw [aX h2]
   split at h
   ·rename_i h3
    rw [aX h3]
    unfold jM at h1
    cases ht:mn e.Nodes with
    |none=>rw [ht]at h1;cases h1
    |some t=>
     rw [ht]at h
     simp only [ba]at h ⊢
     cases hk:kd kinds t with
     |none=>rw [hk]at h;cases h
     |some k=>exact⟨t,rfl,fun k hk=>yg h2 hk,h3,hk⟩
   ·cases h
  ·cases h
 ·cases h
theorem PA(ns:List bm)(hl:ns.length≤200)(hg:JI ns)(kinds:List Int)(h:(fC ⟨ns⟩ kinds).2=0)(own:List ac)(hr:kindR kinds own)(hrg:Tp own)(hlen:own.length=kinds.length):
  ((oB own ns).2=0∧Pl (oB own ns).1∧qt (oB own ns).1 (fC ⟨ns⟩ kinds).1)∨((oB own ns).2=140∧ns.any YG=true):=by
 obtain⟨t,ht,hk4,hcols,hkd⟩:=Ro h
 obtain⟨hw,hN,hs⟩:=jT ht
 have hN:ns=t.flat 0:=hN
 have hcT:CQ kinds.length t:=xF _ t hw 0 (by rw [←hN];exact hcols)
 have hcB:tk own ns=true:=by
  unfold tk
  rw [jx]
  intro n hn
  by_cases htag:n.Tag=2
  ·have hc:=jx.1 hcols n hn
   have h0:=(DW hw 0 (by rw [←hN];exact hn) htag).1
   simp [htag]at hc ⊢
   have hlt:n.Col.toNat<kinds.length:=by omega
   obtain⟨v,hv,hp,_⟩:=hr n.Col.toNat kinds[n.Col.toNat] (ox hlt)
   unfold yN
   rw [hv]
   have e1:decide (n.Col<(own.length:Int))=true:=by simp;omega
   rw [e1];simpa using hp.plain
  ·simp [htag]
 have hcV:xE own t:=vX hrg t hw 0 (by rw [←hN];exact hcB)
 have hgT:=AA t 0 (by rw [←hN];exact hg)
 have hev:oB own ns=ev own t:=by unfold oB;rw [ht];simp [hcB]
 rw [hev]
 rcases Zu hk4 hr t hw hgT hcV hcT hkd with⟨h2,h3⟩|⟨h2,h3⟩
 ·left
  refine⟨h2,?_,h3⟩
  rcases m4 own t hw hgT hcV with⟨_,h⟩|h|h
  ·exact h
  ·rw [h]at h2;cases h2
  ·rw [h]at h2;cases h2
 ·right
  rw [h2]
  exact⟨rfl,by rw [hN];exact h3 0⟩

def sh(s:Nat)(x:Int):Int:=if 0≤x then x+(s:Int)else x
def cb(r:List ac):Tr→Bool
 | .lf n=> !(n.Tag==2)||yN r n.Col
 | .un _ a=>cb r a
 | .bi _ a b=>cb r a&&cb r b

def us(s:Nat)(x:Int):Int:=if 0≤x then x-(s:Int)else x

def fA(v:ac)(l:List ac):ac:=l.foldl Fk v

theorem jG{a b:Bool}(h:a=true↔b=true):a=b:=by cases a<;>cases b<;>simp_all

theorem Dk(h:r64 x):(BitVec.ofInt 64 x).msb=decide (x<0):=by
 unfold r64 at h
 rw [BitVec.msb_eq_toInt,BitVec.toInt_ofInt]
 congr 1
 have:x.bmod (2^64)=x:=by
  rw [Int.bmod_def]
  split<;>omega
 rw [this]
theorem DN(b:BitVec 64):IntKind.i64.wrap (b.toNat:Int)=b.toInt:=by
 rw [vu,BitVec.toInt_eq_toNat_cond]
 have:=b.isLt
 first|done|omega|(split<;>omega)
theorem xM(hx:r64 x)(hy:r64 y):(decide (eZ .xor .i64 x y<0))=(decide (x<0) !=decide (y<0))∧r64 (eZ .xor .i64 x y):=by
 refine⟨?_,oH _⟩
 have e:eZ .xor .i64 x y=(BitVec.ofInt 64 x^^^BitVec.ofInt 64 y).toInt:=DN _
 rw [e,←BitVec.msb_eq_toInt,BitVec.msb_xor,Dk hx,Dk hy]
theorem IP(hx:r64 x)(hy:r64 y):(decide (eZ .and .i64 x y<0))=(decide (x<0)&&decide (y<0)):=by
 have e:eZ .and .i64 x y=(BitVec.ofInt 64 x&&&BitVec.ofInt 64 y).toInt:=DN _
 rw [e,←BitVec.msb_eq_toInt,BitVec.msb_and,Dk hx,Dk hy]
theorem Fb(z:Int):decide (0≤z)= !decide (z<0):=by
 by_cases h:z<0
 ·have: ¬0≤z:=by omega
  simp [h,this]
 ·have:0≤z:=by omega
  simp [h,this]
instance(z:Int):Decidable (r64 z):=by unfold r64;infer_instance
theorem SE(hx:r64 x)(hy:r64 y):Nf 12 x y=(IntKind.i64.wrap (x+y),decide (r64 (x+y))):=by
 have hc:=oH (x+y)
 show(IntKind.i64.wrap (x+y),_)=_
 congr 1
 show decide ((0:Int)≤_)=_
 obtain⟨h1,h2⟩:=xM hx hc
 obtain⟨h3,h4⟩:=xM hy hc
 rw [Fb,IP h2 h4,h1,h3]
 have hcw:=vu (x+y)
 unfold r64 at hx hy hc ⊢
 generalize IntKind.i64.wrap (x+y)=c at hc hcw ⊢
 by_cases hr: -9223372036854775808≤x+y∧x+y≤9223372036854775807
 ·rw [wH hr]
  by_cases p1:x<0<;>by_cases p2:y<0<;>by_cases p3:c<0<;>simp only [p1,p2,p3,Cj,decide_false]<;>first|rfl|(exfalso;omega)
 ·rw [ww hr]
  by_cases p1:x<0<;>by_cases p2:y<0<;>by_cases p3:c<0<;>simp only [p1,p2,p3,Cj,decide_false]<;>first|rfl|(exfalso;omega)
theorem QL(hx:r64 x)(hy:r64 y):Nf 13 x y=(IntKind.i64.wrap (x-y),decide (r64 (x-y))):=by
 have hc:=oH (x-y)
 show(IntKind.i64.wrap (x-y),_)=_
 congr 1
 show decide ((0:Int)≤_)=_
 obtain⟨h1,h2⟩:=xM hx hy
 obtain⟨h3,h4⟩:=xM hx hc
 rw [Fb,IP h2 h4,h1,h3]
 have hcw:=vu (x-y)
 unfold r64 at hx hy hc ⊢
 generalize IntKind.i64.wrap (x-y)=c at hc hcw ⊢
 by_cases hr: -9223372036854775808≤x-y∧x-y≤9223372036854775807
 ·rw [wH hr]
  by_cases p1:x<0<;>by_cases p2:y<0<;>by_cases p3:c<0<;>simp only [p1,p2,p3,Cj,decide_false]<;>first|rfl|(exfalso;omega)
 ·rw [ww hr]
  by_cases p1:x<0<;>by_cases p2:y<0<;>by_cases p3:c<0<;>simp only [p1,p2,p3,Cj,decide_false]<;>first|rfl|(exfalso;omega)
theorem Fj{y:Nat}(h:y<18446744073709551616):eZ .and .u64 (y:Int) 4294967295=((y%4294967296:Nat):Int):=by
 have e:eZ .and .u64 (y:Int) 4294967295=IntKind.u64.wrap (((BitVec.ofInt 64 (y:Int)&&&BitVec.ofInt 64 4294967295).toNat:Nat):Int):=rfl
 have e1:BitVec.ofInt 64 (y:Int)=BitVec.ofNat 64 y:=BitVec.ofInt_natCast 64 y
 have e2:BitVec.ofInt 64 4294967295=BitVec.ofNat 64 (2^32-1):=by decide
 rw [e,e1,e2,BitVec.toNat_and,BitVec.toNat_ofNat,BitVec.toNat_ofNat,Co (by omega:y<2^64),Co (by omega:2^32-1<2^64),Nat.and_two_pow_sub_one_eq_mod,Gr (by omega) (by omega)]
theorem wk(y:Nat):((y:Int)).fdiv (2^(min (Int.toNat (32:Int)) IntKind.u64.bits))=((y/4294967296:Nat):Int):=by
 have e:(2:Int)^(min (Int.toNat (32:Int)) IntKind.u64.bits)=4294967296:=by decide
 rw [e,Int.fdiv_eq_ediv_of_nonneg _ (by decide)]
 rfl
theorem qc{n:Nat}(h:n<18446744073709551616):IntKind.u64.wrap (n:Int)=(n:Int):=Gr (by omega) (by omega)
theorem Rf(x y:Nat)(hx:x<18446744073709551616)(hy:y<18446744073709551616):mU (x:Int) (y:Int)=some (((x*y/18446744073709551616:Nat):Int),((x*y%18446744073709551616:Nat):Int)):=by
 unfold mU
 have hx0:x%4294967296<4294967296:=uH _ (by decide)
 have hy0:y%4294967296<4294967296:=uH _ (by decide)
 have hx1:x/4294967296<4294967296:=by omega
 have hy1:y/4294967296<4294967296:=by omega
 have ex:x=x/4294967296*4294967296+x%4294967296:=by omega
 have ey:y=y/4294967296*4294967296+y%4294967296:=by omega
 rw [Fj hx,Fj hy,wk,wk]
 generalize x/4294967296=x1 at*
 generalize x%4294967296=x0 at*
 generalize y/4294967296=y1 at*
 generalize y%4294967296=y0 at*
 have b00:x0*y0≤4294967295*4294967295:=wv (by omega) (by omega)
 have b10:x1*y0≤4294967295*4294967295:=wv (by omega) (by omega)
 have b01:x0*y1≤4294967295*4294967295:=wv (by omega) (by omega)
 have b11:x1*y1≤4294967295*4294967295:=wv (by omega) (by omega)
 have exy:x*y=x1*y1*18446744073709551616+(x1*y0+x0*y1)*4294967296+x0*y0:=by
  rw [ex,ey]
  simp only [um,Nat.mul_add]
  have h1:x1*4294967296*(y1*4294967296)=x1*y1*18446744073709551616:=by
   rw [Nat.mul_mul_mul_comm]
  have h2:x1*4294967296*y0=x1*y0*4294967296:=by rw [Nat.mul_right_comm]
  have h3:x0*(y1*4294967296)=x0*y1*4294967296:=by rw [Nat.mul_assoc]
  rw [h1,h2,h3];omega
 rw [←wR x1 y1,←wR x1 y0,←wR x0 y0,←wR x0 y1,←wR x y]
 rw [exy]
 generalize x0*y0=p at*
 generalize x1*y0=q at*
 generalize x0*y1=r at*
 generalize x1*y1=s at*
 rw [qc (n:=s) (by omega),qc (n:=q) (by omega),qc (n:=p) (by omega),qc (n:=r) (by omega),wk]
 rw [←Ai q (p/4294967296),qc (n:=q+p/4294967296) (by omega),wk,←Ai s,qc (n:=s+(q+p/4294967296)/4294967296) (by omega)]
 rw [Fj (by omega),←Ai,qc (n:=(q+p/4294967296)%4294967296+r) (by omega),wk,←Ai,qc (n:=s+(q+p/4294967296)/4294967296+((q+p/4294967296)%4294967296+r)/4294967296) (by omega)]
 congr 1
 refine Prod.ext ?_ ?_
 ·simp only
  congr 1
  omega
 ·simp only
  rw [tG];omega
theorem JR(x y:Int):x*y=if(decide (x<0) !=decide (y<0))=true then -(((x.natAbs*y.natAbs:Nat)):Int)else((x.natAbs*y.natAbs:Nat):Int):=by
 have hx:x=if x<0 then -(x.natAbs:Int)else(x.natAbs:Int):=by split<;>omega
 have hy:y=if y<0 then -(y.natAbs:Int)else(y.natAbs:Int):=by split<;>omega
 rw [wR]
 by_cases p1:x<0<;>by_cases p2:y<0
 ·rw [aX p1]at hx;rw [aX p2]at hy
  conv=>lhs;rw [hx,hy]
  simp [p1,p2,Int.neg_mul_neg]
 ·rw [aX p1]at hx;rw [aM p2]at hy
  conv=>lhs;rw [hx,hy]
  simp [p1,p2,Int.neg_mul]
 ·rw [aM p1]at hx;rw [aX p2]at hy
  conv=>lhs;rw [hx,hy]
  simp [p1,p2,Int.mul_neg]
 ·rw [aM p1]at hx;rw [aM p2]at hy
  conv=>lhs;rw [hx,hy]
  simp [p1,p2]
theorem Gy(m:Nat)(hm:m<18446744073709551616)(b:Bool): ∃n,mN (m:Int) b=some (n,decide (r64 (if b then -(m:Int)else(m:Int))))∧(r64 (if b then -(m:Int)else(m:Int))→n=if b then -(m:Int)else(m:Int)):=by
 unfold mN
 cases b with
 |true=>
  simp only [eK]
  refine⟨IntKind.i64.wrap (IntKind.u64.wrap (0-(m:Int))),?_,fun hr=>?_⟩
  ·congr 2
   exact Ck.mpr (by unfold r64;omega)
  ·unfold r64 at hr
   rw [tG,vu];omega
 |false=>
  simp only [fZ,d9]
  refine⟨IntKind.i64.wrap (m:Int),?_,fun hr=>?_⟩
  ·congr 2
   exact Ck.mpr (by unfold r64;omega)
  ·unfold r64 at hr
   rw [vu];omega
theorem Re(hx:r64 x)(hy:r64 y):(Nf 14 x y).2=decide (r64 (x*y))∧(r64 (x*y)→(Nf 14 x y).1=x*y):=by
 have ha:x.natAbs≤9223372036854775808:=by unfold r64 at hx;omega
 have hb:y.natAbs≤9223372036854775808:=by unfold r64 at hy;omega
 have hprod:=JR x y
 have e:Nf 14 x y=(me x y).getD (0,false):=rfl
 rw [e]
 unfold me
 rw [tP x hx,tP y hy]
 simp only [ba]
 rw [Rf _ _ (by omega) (by omega)]
 simp only [ba]
 generalize (decide (x<0) !=decide (y<0))=b at hprod ⊢
 generalize x.natAbs*y.natAbs=m at hprod ⊢
 obtain⟨n,h1,h2⟩:=Gy (m%18446744073709551616) (uH _ (by decide)) b
 rw [h1]
 simp only [ba,Gh]
 rw [hprod]
 by_cases hm:m<18446744073709551616
 ·rw [Co hm]at h2 ⊢
  have hd:m/18446744073709551616=0:=Nat.div_eq_of_lt hm
  rw [hd]
  refine⟨by simp,fun hr=>h2 hr⟩
 ·have hd:m/18446744073709551616≠0:=by omega
  have hnr: ¬r64 (if b=true then -(m:Int)else(m:Int)):=by
   unfold r64
   split<;>omega
  refine⟨?_,fun hr=>absurd hr hnr⟩
  have:((((m/18446744073709551616:Nat):Int))==0)=false:=by simp;omega
  rw [this]
  simp [hnr]
theorem JP(x y:Int):x.tdiv y=if(decide (x<0) !=decide (y<0))=true then -((x.natAbs/y.natAbs:Nat):Int)else((x.natAbs/y.natAbs:Nat):Int):=by
 have hx:x=if x<0 then -(x.natAbs:Int)else(x.natAbs:Int):=by split<;>omega
 have hy:y=if y<0 then -(y.natAbs:Int)else(y.natAbs:Int):=by split<;>omega
 have ht: ∀a b:Nat,((a:Int)).tdiv (b:Int)=((a/b:Nat):Int):=fun a b=>rfl
 by_cases p1:x<0<;>by_cases p2:y<0
 ·rw [aX p1]at hx;rw [aX p2]at hy
  conv=>lhs;rw [hx,hy]
  rw [Int.neg_tdiv,Int.tdiv_neg,ht]
  simp [p1,p2]
 ·rw [aX p1]at hx;rw [aM p2]at hy
  conv=>lhs;rw [hx,hy]
  rw [Int.neg_tdiv,ht]
  simp [p1,p2]
 ·rw [aM p1]at hx;rw [aX p2]at hy
  conv=>lhs;rw [hx,hy]
  rw [Int.tdiv_neg,ht]
  simp [p1,p2]
 ·rw [aM p1]at hx;rw [aM p2]at hy
  conv=>lhs;rw [hx,hy]
  rw [ht]
  simp [p1,p2]
theorem Sa(hx:r64 x)(hy:r64 y)(h0:y≠0):(Nf 15 x y).2=decide (r64 (x.tdiv y))∧(r64 (x.tdiv y)→(Nf 15 x y).1=x.tdiv y):=by
 have ha:x.natAbs≤9223372036854775808:=by unfold r64 at hx;omega
 have hq:=JP x y
 have e:Nf 15 x y=(mf x y).getD (0,false):=rfl
 rw [e]
 unfold mf
 rw [aM (by simpa using h0),tP x hx,tP y hy]
 simp only [ba]
 have hn:nz ((y.natAbs:Nat):Int)=some ():=by
  unfold nz
  rw [aM (by omega)]
 rw [hn]
 have ht:((x.natAbs:Int)).tdiv (y.natAbs:Int)=((x.natAbs/y.natAbs:Nat):Int):=rfl
 have hle:x.natAbs/y.natAbs≤x.natAbs:=Nat.div_le_self _ _
 simp only [ba]
 rw [ht,qc (by omega)]
 generalize (decide (x<0) !=decide (y<0))=b at hq ⊢
 obtain⟨n,h1,h2⟩:=Gy (x.natAbs/y.natAbs) (by omega) b
 rw [h1]
 simp only [ba,Gh]
 rw [hq]
 exact⟨rfl,h2⟩
def Yo(tag x y:Int):Option Int:=if tag=12 then some (x+y)else if tag=13 then some (x-y)else if tag=14 then some (x*y)else if y=0 then none else some (x.tdiv y)
def FV(tag x y:Int):ac×Int:=match Yo tag x y with
 |none=>(zV,140)
 |some z=>if r64 z then(iV z,0)else(zV,140)
theorem Wk(x y:Int):Yo 12 x y=some (x+y):=rfl
theorem Wj(x y:Int):Yo 13 x y=some (x-y):=rfl
theorem Wi(x y:Int):Yo 14 x y=some (x*y):=rfl
theorem Oy(x y:Int):Yo 15 x y=if y=0 then none else some (x.tdiv y):=rfl
theorem pi{z:Int}(h:Yo tag x y=some z):FV tag x y=if r64 z then(iV z,0)else(zV,140):=by
 unfold FV;rw [h]
theorem GE(h:Yo tag x y=none):FV tag x y=(zV,140):=by
 unfold FV;rw [h]
theorem HT{a:Int×Bool}{z:Int}(h1:a.2=decide (r64 z))(h2:r64 z→a.1=z):(if a.2=true then(iV a.1,(0:Int))else(zV,140))=if r64 z then(iV z,0)else(zV,140):=by
 by_cases h:r64 z
 ·rw [h1,wH h,aX rfl,aX h,h2 h]
 ·rw [h1,ww h,aM (by decide),aM h]
theorem VM(ht:tag=12∨tag=13∨tag=14∨tag=15)(hx:r64 x)(hy:r64 y):(if(Nf tag x y).2=true then(iV (Nf tag x y).1,(0:Int))else(zV,140))=FV tag x y:=by
 have hw: ∀z,r64 z→IntKind.i64.wrap z=z:=fun z h=>by unfold r64 at h;exact cv h.1 h.2
 rcases ht with rfl|rfl|rfl|rfl
 ·rw [pi (Wk x y)]
  exact HT (by rw [SE hx hy]) (fun h=>by rw [SE hx hy];exact hw _ h)
 ·rw [pi (Wj x y)]
  exact HT (by rw [QL hx hy]) (fun h=>by rw [QL hx hy];exact hw _ h)
 ·rw [pi (Wi x y)]
  exact HT (Re hx hy).1 (Re hx hy).2
 ·by_cases h0:y=0
  ·subst h0
   rw [GE (by rw [Oy,aX rfl])]
   rfl
  ·rw [pi (z:=x.tdiv y) (by rw [Oy,aM h0])]
   exact HT (Sa hx hy h0).1 (Sa hx hy h0).2
end Go.Proofs.YtfhhakidodmdfaaGreatDoor

