/- eJ of this claim: K1, K2, K3, K4, L1, L2, L3, M1, M2, M3, M4, M5, M6, M7, M8, M9. -/
import Derived.Test.YtpgjgkdpeagjbaaGreatDoorJaF
import Derived.KernelRfl
import Derived.Test.YtpgjgkdpeagjbaaGreatDoorJaV4
set_option linter.all false
namespace Go.Proofs.YtpgjgkdpeagjbaaGreatDoor
open Go

abbrev cS:=List ac
variable{n:bZ}
def ot{n:Int}(h: -9223372036854775808<=n)(K:n<=9223372036854775807):IntKind.i64.wrap n=n:=by
 rw [xN];omega
variable{α:Type}{xs:List α}
def cA{ys:List α}(h:xs.length+ys.length<=68719476736):app xs ys=some (xs++ys):=br h
def OH{i:Nat}:di xs (i:Int)=(xs.drop i).head? :=by
 rw [cO,List.head?_drop]
def gF(v:ac):Bool:=(d5 v).getD false
variable{v:ac}
def gg(v:ac):d5 v=some (gF v):=by
 unfold gF d5
 repeat' split
 all_goals rfl
variable{k:Nat}
def qh(v:ac):mT v=some (if gF v then 0 else 120):=by
 obtain⟨k,n,u,s⟩:=v
 unfold gF d5 mT An
 simp only [mz,sN,sM,sL]
 by_cases h0:k=0
 ·subst h0;simp
  repeat' split
  all_goals simp_all
 by_cases I:k=1
 ·subst I
  by_cases n0:n=0
  ·subst n0;simp
   repeat' split
   all_goals simp_all
  by_cases n1:n=1
  ·subst n1;simp
   repeat' split
   all_goals simp_all
  simp [n0,n1]
 by_cases K:k=2
 ·subst K;simp
  repeat' split
  all_goals simp_all
 by_cases h3:k=3
 ·subst h3;simp
  repeat' split
  all_goals simp_all
 by_cases h4:k=4
 ·subst h4;simp
  repeat' split
  all_goals simp_all
 simp [h0,I,K,h3,h4]
def kW(r:cS):Bool:=decide (r.length<=16)&&r.all gF
def Hz(v:ac):uG v=some (!gF v):=by
 unfold uG
 rw [qh]
 cases gF v<;>rfl
variable{f:α->α->Int}{l:List cS}{r:List ac}
def Fp{f:ac->Option Bool}{g:ac->Bool}(hf: ∀v,f v=some (g v))(l:cS):iH l f=some (l.any g):=by
 have key: ∀(l:cS) (i:Nat),(dJ f l i).bind (fun r=>some (decide ((0:Int)<=r)))=some (l.any g):=by
  intro l
  induction l with
  |nil=>intro i;simp [dJ]
  |cons e t ih=>intro i;simp only [dJ,hf,bt];cases h:g e<;>simp [ih,h]
 exact key l 0
def yX(r:cS):vO r=some (kW r):=by
 unfold vO kW
 rw [Fp (g:=fun v=> !gF v) Hz]
 by_cases h:r.length<=16
 ·rw [br (by simp;omega)]
  simp [h,List.all_eq_not_any_not]
 ·rw [aS (by simp;omega)]
  simp [h]
def HG(r:cS):xb r=some (kW r):=by
 have key: ∀l:cS,qn l=some (l.all gF):=by
  intro l
  induction l with
  |nil=>rfl
  |cons e t ih=>simp only [qn,gg,bt];cases h:gF e<;>simp [ih,h]
 unfold xb kW
 rw [key]
 by_cases h:r.length<=16
 ·rw [aS (by simp;omega)]
  simp [h]
 ·rw [br (by simp;omega)]
  simp [h]
def Qh{r:cS}(h:kW r=true):r.length<=16:=by
 unfold kW at h
 simp at h
 exact h.1

variable{a:ac}
def nr: ∀s:C0,Op.bytesLess s s=false
 |[]=>rfl
 |a::s=>by
  unfold Op.bytesLess
  simp [nr s]
def orL:List Int->Int
 |[]=>0
 |e::t=>if e !=0 then e else orL t
def Ff(l:List Int):oX l=some (orL l):=by
 unfold oX
 induction l with
 |nil=>rfl
 |cons e t ih=>simp only [iC,orL];split<;>simp [*]
def val(x y:ac):Int:=(mZ x y).getD 0
variable{x:α}
def wm(x y:ac):mZ x y=some (val x y):=by
 unfold val mZ nl
 repeat' split
 all_goals rfl
def SP(p y:Int):kj p y=some (if p<y then -1 else if y<p then 1 else 0):=by
 unfold kj pN
 simp
 repeat' split
 all_goals rfl
def KJ(p y:Int):i9 p y=some (if p<y then -1 else if y<p then 1 else 0):=by
 unfold i9 mP
 simp
 repeat' split
 all_goals rfl
def KI(p y:Int):oY p y=some (if p<y then -1 else if y<p then 1 else 0):=by
 unfold oY qQ
 simp
 repeat' split
 all_goals rfl
def SO(p y:C0):oZ p y=some (if Op.bytesLess p y then -1 else if p=y then 0 else 1):=by
 unfold oZ qR
 by_cases h:p=y
 ·subst h;simp [nr]
 ·cases K:Op.bytesLess p y<;>simp [h]
def Ca(x y:ac):rQ x y=some (val x y):=by
 unfold rQ
 rw [SP,KJ,KI,SO]
 simp only [bt]
 rw [Ff]
 unfold val mZ nl
 simp only [orL,bt]
 by_cases I:x.Kind=y.Kind
 ·rw [I]
  by_cases K:x.N=y.N
  ·rw [K]
   by_cases h3:x.U=y.U
   ·rw [h3]
    by_cases h4:x.S=y.S
    ·rw [h4];simp [nr]
    ·cases h5:Op.bytesLess x.S y.S<;>simp [h4]
   ·rcases Int.lt_or_gt_of_ne h3 with h|h
    ·simp [h3,h]
    ·have: ¬x.U<y.U:=by omega
     simp [h3,h,this]
  ·rcases Int.lt_or_gt_of_ne K with h|h
   ·simp [K,h]
   ·have: ¬x.N<y.N:=by omega
    simp [K,h,this]
 ·rcases Int.lt_or_gt_of_ne I with h|h
  ·simp [I,h]
  ·have: ¬x.Kind<y.Kind:=by omega
   simp [I,h,this]
def fe:cS->cS->Int
 |[],[]=>0
 |[],_::_=> -1
 |_::_,[]=>1
 |x::a,y::b=>if val x y !=0 then val x y else fe a b
def I8(a b:cS):dj a b rQ=some (fe a b):=by
 unfold dj
 have key: ∀(l:cS) (i:Nat),a.drop i=l->i<=a.length->cw a b rQ l i=some (fe l (b.drop i)):=by
  intro l
  induction l with
  |nil=>
   intro i I K
   have h3:a.length<=i:=Jc.1 I
   simp only [cw]
   by_cases hlt:a.length<b.length
   ·rw [br (by simp;omega)]
    rw [uA (by omega:i<b.length)];rfl
   ·rw [aS (by simp;omega),Ae (by omega)];rfl
  |cons x t ih=>
   intro i I K
   have hi:i<a.length:=by
    rcases uy i a.length with h|h
    ·exact h
    ·rw [Ae h]at I;cases I
   simp only [cw]
   have Y:=ih (i+1) (by rw [<-qb,I];rfl) (by omega)
   rcases uy i b.length with h|h
   ·rw [aS (by simp;omega),cO,p5 h,uA h,Y]
    simp only [bt,Ca,fe]
    split<;>rfl
   ·rw [br (by simp;omega),Ae h];rfl
 exact key a 0 rfl (lG _)
def yY(a b:cS):sj a b=some (fe a b):=by
 unfold sj
 rw [I8 a b];rfl
def HA(a b:cS):sl a b=some (if kW a&&kW b then fe a b else 0):=by
 unfold sl
 rw [yX,yX,yY]
 cases ha:kW a<;>cases M:kW b<;>simp
def nU(a b:cS)(ha:a.length<4611686018427387904):mg a b=some (fe a b):=by
 unfold mg
 have key: ∀n (i:Nat),i<=a.length->i<=b.length->a.length<i+n->nT a b n (i:Int)=some (fe (a.drop i) (b.drop i)):=by
  intro n
  induction n with
  |zero=>intro i I _ K;omega
  |succ n ih=>
   intro i I K h3
   have hw:IntKind.i64.wrap ((i:Int)+1)=((i+1:Nat):Int):=by rw [xN];omega
   simp only [nT,hw]
   rcases uy i a.length with hi|hi
   ·rcases uy i b.length with hj|hj
    ·rw [br (by simp;omega),cO,cO,p5 hi,p5 hj,uA hi,uA hj]
     simp only [bt,wm]
     rw [ih (i+1) (by omega) (by omega) (by omega)]
     simp only [fe]
     split<;>rfl
    ·rw [aS (by simp;omega),uA hi,Ae hj,aS (by simp;omega)]
     simp only [nl]
     rw [aS (by simp;omega)]
     rfl
   ·rw [aS (by simp;omega),Ae hi]
    rcases uy i b.length with hj|hj
    ·rw [uA hj,aS (by simp;omega)]
     simp only [nl]
     rw [br (by simp;omega)]
     rfl
    ·rw [Ae hj,br (by simp;omega)]
     rfl
 have:=key fm 0 (lG _) (lG _) (by unfold fm;omega)
 simpa using this

def y4(a b:cS):sk a b=some (decide (a=b)):=by
 unfold sk kF
 by_cases hl:a.length=b.length
 ·rw [aS (by simp [hl])]
  have key: ∀(l:cS) (i:Nat),a.drop i=l->fF b l i=some (decide (l=b.drop i)):=by
   intro l
   induction l with
   |nil=>
    intro i I
    have h3:a.length<=i:=Jc.1 I
    rw [Ae (by omega)];rfl
   |cons x t ih=>
    intro i I
    have hi:i<a.length:=by
     rcases uy i a.length with h|h
     ·exact h
     ·rw [Ae h]at I;cases I
    have Y:=ih (i+1) (by rw [<-qb,I];rfl)
    simp only [fF]
    rw [cO,p5 (by omega),uA (by omega:i<b.length)]
    simp only [bt,Y]
    by_cases V:x=b[i]
    ·rw [aS (by simp [V])]
     exact congrArg some (Fv.2 ⟨fun h=>by rw [V,h],fun h=>(B0 h).2⟩)
    ·rw [br (by simp [V])]
     exact congrArg some (yI (fun h=>V (B0 h).1)).symm
  have:=key a 0 rfl
  rw [this];simp
 ·rw [br (by simp;omega)]
  have:a≠b:=fun e=>hl (by rw [e])
  simp [this]
def Fq(r:cS)(h:r.length<=68719476736):dx r=some r:=by
 unfold dx
 rw [cA (by simpa using h)];rfl
def Cc(l:List cS)(h: ∀r∈l,r.length<=68719476736)(hl:l.length<=68719476736):wi l=some l:=by
 have key: ∀(m out:List cS),(∀r∈m,r.length<=68719476736)->out.length+m.length<=68719476736->px m out=some (out++m):=by
  intro m
  induction m with
  |nil=>intro out _ _;simp [px]
  |cons e t ih=>
   intro out I K
   simp only [io]at K
   simp only [px]
   rw [Fq e (I e (mp ..))]
   simp only [bt]
   rw [cA (by simp;omega)]
   simp only [bt]
   rw [ih _ (fun r hr=>I r (lT _ hr)) (by simp;omega)]
   simp
 have:=key l [] h (by simpa using hl)
 simpa [wi] using this

structure Dc{α:Type}(f:α->α->Int):Prop where
 rng: ∀x y,f x y= -1\/f x y=0\/f x y=1
 anti: ∀x y,f y x= -f x y
 eq: ∀x y,f x y=0↔x=y
 trans: ∀x y z,f x y<=0->f y z<=0->f x z<=0
def Dc.lt(h:Dc f){y z:α}(I:f x y<=0)(K:f y z<=0)(h3:f x y<0\/f y z<0):f x z<0:=by
 have h4:=h.trans x y z I K
 rcases h.rng x z with h5|h5|h5
 ·omega
 ·have e:=(h.eq x z).1 h5
  subst e
  have:=h.anti x y
  omega
 ·omega
def KK(c d:Int):Int:=if c !=0 then c else d
def Dc.lex{β:Type}{g:β->β->Int}(hf:Dc f)(H:Dc g):Dc (fun(p q:α×β)=>KK (f p.1 q.1) (g p.2 q.2)) where
 rng:=fun x y=>by
  unfold KK
  split
  ·exact hf.rng _ _
  ·exact H.rng _ _
 anti:=fun x y=>by
  have I:=hf.anti x.1 y.1
  have K:=H.anti x.2 y.2
  unfold KK
  by_cases h:f x.1 y.1=0
  ·have:f y.1 x.1=0:=by omega
   simp [h,this,K]
  ·have:f y.1 x.1≠0:=by omega
   simp [h,I]
 eq:=fun x y=>by
  unfold KK
  by_cases h:f x.1 y.1=0
  ·have e:=(hf.eq _ _).1 h
   simp only [h,B5,iq,fU]
   rw [H.eq]
   exact⟨fun K=>Prod.ext e K,fun K=>by rw [K]⟩
  ·simp only [ux,sJ,h,Fy,gx,false_iff]
   intro e
   exact h ((hf.eq _ _).2 (by rw [e]))
 trans:=fun x y z=>by
  unfold KK
  by_cases I:f x.1 y.1=0
  ·have e:=(hf.eq _ _).1 I
   simp only [I,B5,iq,fU]
   rw [<-e]
   by_cases K:f x.1 z.1=0
   ·simp only [K,B5,iq,fU]
    exact H.trans _ _ _
   ·simp only [ux,sJ,K,Fy,gx]
    exact fun _ h=>h
  ·simp only [ux,sJ,I,Fy,gx]
   by_cases K:f y.1 z.1=0
   ·have e:=(hf.eq _ _).1 K
    have h5:f x.1 z.1≠0:=by rw [<-e];exact I
    simp only [h5,Fy,gx]
    intro h _
    rw [<-e];exact h
   ·simp only [K,Fy,gx]
    intro h3 h4
    have:=hf.lt h3 h4 (by omega)
    simp only [show f x.1 z.1≠0 from by omega,Fy,gx]
    omega
def Pa(p y:Int):Int:=if p<y then -1 else if y<p then 1 else 0
def po:Dc Pa where
 rng:=fun x y=>by
  unfold Pa
  repeat' split
  all_goals omega
 anti:=fun x y=>by unfold Pa;repeat' split;all_goals omega
 eq:=fun x y=>by
  unfold Pa
  constructor
  ·intro h;repeat' split at h
   all_goals omega
  ·intro h;subst h;simp
 trans:=fun x y z=>by
  unfold Pa
  repeat' split
  all_goals omega
def Cp: ∀a b:C0,Op.bytesLess a b=false->Op.bytesLess b a=false->a=b
 |[],[],_,_=>rfl
 |[],_::_,h,_=>by simp [Op.bytesLess]at h
 |_::_,[],_,h=>by simp [Op.bytesLess]at h
 |x::a,y::b,h,k=>by
  simp only [Op.bytesLess,Bool.or_eq_false_iff,Jd,Bool.and_eq_false_imp,uZ]at h k
  have e:x=y:=by
   have I:=h.1
   have K:=k.1
   exact UInt8.le_antisymm (UInt8.not_lt.1 K) (UInt8.not_lt.1 I)
  subst e
  rw [Cp a b (h.2 rfl) (k.2 rfl)]
def vf: ∀a b c:C0,Op.bytesLess a b=true->Op.bytesLess b c=true->Op.bytesLess a c=true
 |_,[],_,h,_=>by cases ‹List UInt8› <;>simp [Op.bytesLess]at h
 |_,_::_,[],_,h=>by simp [Op.bytesLess]at h
 |[],_::_,_::_,_,_=>rfl
 |x::a,y::b,z::c,h,k=>by
  simp only [Op.bytesLess,tB,j9,gN,uZ]at h k ⊢
  rcases h with h|⟨I,K⟩
  ·rcases k with k|⟨k1,_⟩
   ·exact .inl (UInt8.lt_trans h k)
   ·subst k1;exact .inl h
  ·subst I
   rcases k with k|⟨k1,k2⟩
   ·exact .inl k
   ·exact .inr ⟨k1,vf a b c K k2⟩
def Uc(p y:C0):Int:=if Op.bytesLess p y then -1 else if p=y then 0 else 1
def IK{a b:C0}(h:Op.bytesLess a b=true):Op.bytesLess b a=false:=by
 cases k:Op.bytesLess b a with
 |false=>rfl
 |true=>have:=vf a b a h k;rw [nr]at this;cases this
def Em:Dc Uc where
 rng:=fun x y=>by
  unfold Uc
  split
  ·exact .inl rfl
  split
  ·exact .inr (.inl rfl)
  ·exact .inr (.inr rfl)
 anti:=fun x y=>by
  unfold Uc
  cases h:Op.bytesLess x y with
  |true=>
   have K:=IK h
   have:y≠x:=fun e=>by rw [e,nr]at h;cases h
   simp [K,this]
  |false=>
   cases k:Op.bytesLess y x with
   |true=>
    have:x≠y:=fun e=>by rw [e,nr]at k;cases k
    simp [this]
   |false=>have:=Cp x y h k;simp [this]
 eq:=fun x y=>by
  unfold Uc
  constructor
  ·intro h;repeat' split at h
   all_goals simp_all
  ·intro h;subst h;simp [nr]
 trans:=fun x y z=>by
  unfold Uc
  intro I K
  cases hxy:Op.bytesLess x y with
  |true=>
   cases hyz:Op.bytesLess y z with
   |true=>simp [vf x y z hxy hyz]
   |false=>
    rw [hyz]at K
    by_cases e:y=z
    ·subst e;simp [hxy]
    ·simp [e]at K
  |false=>
   rw [hxy]at I
   by_cases e:x=y
   ·subst e;exact K
   ·simp [e]at I
def key(v:ac):Int×Int×Int×C0:=(v.Kind,v.N,v.U,v.S)
def adq(a b c d:Int):orL [a,b,c,d]=KK a (KK b (KK c d)):=by
 simp only [orL,KK]
 by_cases h:d=0
 ·simp [h]
 ·simp [h]
def wc(x y:ac):val x y=KK (Pa x.Kind y.Kind) (KK (Pa x.N y.N) (KK (Pa x.U y.U) (Uc x.S y.S))):=by
 have h:=Ca x y
 unfold rQ at h
 rw [SP,KJ,KI,SO]at h
 simp only [bt]at h
 rw [Ff]at h
 simp only [bt,Dm]at h
 rw [<-h,adq]
 rfl
def ul:Dc val where
 rng:=fun x y=>by rw [wc];exact(po.lex (po.lex (po.lex Em))).rng (key x) (key y)
 anti:=fun x y=>by rw [wc,wc];exact(po.lex (po.lex (po.lex Em))).anti (key x) (key y)
 eq:=fun x y=>by
  rw [wc]
  refine((po.lex (po.lex (po.lex Em))).eq (key x) (key y)).trans ⟨fun h=>?_,fun h=>by rw [h]⟩
  cases x;cases y
  simp only [key,Prod.mk.injEq]at h
  simp [h]
 trans:=fun x y z=>by rw [wc,wc,wc];exact(po.lex (po.lex (po.lex Em))).trans (key x) (key y) (key z)
def i7:Dc fe where
 rng:=by
  intro x
  induction x with
  |nil=>intro y;cases y<;>simp [fe]
  |cons a x ih=>
   intro y
   cases y with
   |nil=>simp [fe]
   |cons b y=>
    simp only [fe]
    split
    ·exact ul.rng a b
    ·exact ih y
 anti:=by
  intro x
  induction x with
  |nil=>intro y;cases y<;>simp [fe]
  |cons a x ih=>
   intro y
   cases y with
   |nil=>simp [fe]
   |cons b y=>
    simp only [fe]
    have h:=ul.anti a b
    by_cases I:val a b=0
    ·have K:val b a=0:=by omega
     simp [I,K,ih y]
    ·have K:val b a≠0:=by omega
     simp [I,h]
 eq:=by
  intro x
  induction x with
  |nil=>intro y;cases y<;>simp [fe]
  |cons a x ih=>
   intro y
   cases y with
   |nil=>simp [fe]
   |cons b y=>
    simp only [fe]
    by_cases I:val a b=0
    ·have e:=(ul.eq a b).1 I
     subst e
     simp [I,ih y]
    ·have e:a≠b:=fun e=>I ((ul.eq a b).2 e)
     simp [I,e]
 trans:=by
  intro x
  induction x with
  |nil=>intro y z;cases y<;>cases z<;>simp [fe]
  |cons a x ih=>
   intro y z
   cases y with
   |nil=>simp [fe]
   |cons b y=>
    cases z with
    |nil=>simp [fe]
    |cons c z=>
     simp only [fe]
     by_cases I:val a b=0
     ·have e:=(ul.eq a b).1 I
      subst e
      by_cases K:val a c=0
      ·simp [I,K];exact ih y z
      ·simp [I,K]
     ·by_cases K:val b c=0
      ·have e:=(ul.eq b c).1 K
       subst e
       simp only [I,K,ux,sJ,Fy,gx]
       simp only [Nc,fU]
       exact fun h _=>h
      ·simp only [I,K,ux,sJ,Fy,gx]
       intro h3 h4
       have:=ul.lt h3 h4 (by omega)
       rw [br (by omega)]
       omega

section
def WZ(f:α->α->Int)(x y:α):Bool:=decide (f x y<0)
def Dc.self(h:Dc f)(x:α):f x x=0:=(h.eq x x).2 rfl
def qS(f:α->α->Int)(l:List α):Prop:=l.Pairwise (fun a b=>f a b<=0)
def uo(h:Dc f){a b:List α}(ha:qS f a)(M:qS f b)(hp:a.Perm b):a=b:=
 List.Perm.eq_of_pairwise (le:=fun x y=>f x y<=0) (fun x y _ _ I K=>(h.eq x y).1 (by have:=h.anti x y;omega)) ha M hp
def A7(h:Dc f){c:α×α->Option Int}(hc: ∀x y,c (x,y)=some (f x y)){l:List α}(hl:l.length<=1099511627776):C9 c l:=by
 have hlt: ∀x y,xG c x y=WZ f x y:=fun x y=>by unfold xG WZ;rw [hc]
 refine⟨hl,fun x _ y _=>by rw [hc];rfl,fun x _=>by rw [hlt];unfold WZ;rw [h.self];rfl,fun x _ y _ z _ I K=>?_,fun x _ y _ I K=>?_⟩
 ·rw [hlt]at*
  unfold WZ at*
  have h1' :=Ng I
  have h2' :=Ng K
  exact zQ (h.lt (by omega) (by omega) (.inl h1'))
 ·rw [hlt]at*
  unfold WZ at*
  have h1' :=of_decide_eq_false I
  have h2' :=of_decide_eq_false K
  have:=h.anti x y
  exact(h.eq x y).1 (by omega)
def u9(f:α->α->Int)(l:List α):List α:=Cl (WZ f) l
def lJ(f:α->α->Int)(l:List α):(u9 f l).Perm l:=wx _ l
def tI(h:Dc f)(l:List α)(hl:l.length<=1099511627776):qS f (u9 f l):=by
 have H:=A7 h (c:=fun p=>some (f p.1 p.2)) (fun _ _=>rfl) hl
 have:=zg H l (fun y hy=>hy)
 have e:xG (fun p:α×α=>some (f p.1 p.2))=WZ f:=by funext x y;rfl
 rw [e]at this
 refine this.imp fun{a b} hab=>?_
 unfold WZ at hab
 have I:=of_decide_eq_false hab
 have:=h.anti b a
 omega
def To [DecidableEq α](h:Dc f){c:α×α->Option Int}(hc: ∀x y,c (x,y)=some (f x y)){l:List α}(hl:l.length<=1099511627776):B9 c l=some (u9 f l):=by
 rw [Hd (A7 h hc hl)]
 have e:xG c=WZ f:=by funext x y;unfold xG WZ;rw [hc]
 rw [e];rfl
def put(f:α->α->Int)(x:α):List α->List α
 |[]=>[x]
 |y::l=>if f x y<0 then x::y::l else y::put f x l
def AC(f:α->α->Int)(x:α): ∀l:List α,(put f x l).Perm (x::l)
 |[]=> .refl _
 |y::l=>by
  unfold put
  split
  ·exact .refl _
  ·exact((AC f x l).cons y).trans (.swap ..)
def HK(h:Dc f)(x:α): ∀l:List α,qS f l->qS f (put f x l)
 |[],_=>List.pairwise_singleton _ _
 |y::l,hl=>by
  have hl' :=BI.1 hl
  unfold put
  split
  ·rename_i hlt
   refine BI.2 ⟨fun z hz=>?_,hl⟩
   rcases gW.1 hz with rfl|hz
   ·omega
   ·exact h.trans x y z (by omega) (hl'.1 z hz)
  ·rename_i hlt
   refine BI.2 ⟨fun z hz=>?_,HK h x l hl'.2⟩
   rcases gW.1 ((AC f x l).mem_iff.1 hz)with rfl|hz
   ·have:=h.anti z y;omega
   ·exact hl'.1 z hz
def CN(f:α->α->Int):List α->List α->List α
 |[],out=>out
 |x::l,out=>CN f l (put f x out)
def FP(f:α->α->Int): ∀l out:List α,(CN f l out).Perm (out++l)
 |[],out=>by simp [CN]
 |x::l,out=>(FP f l _).trans (((AC f x out).append_right l).trans (by simpa using (List.perm_middle (a:=x) (l₁:=out) (l₂:=l)).symm))
def Ck(h:Dc f): ∀l out:List α,qS f out->qS f (CN f l out)
 |[],_,ho=>ho
 |x::l,out,ho=>Ck h l _ (HK h x out ho)
def Kh(h:Dc f)(l:List α)(hl:l.length<=1099511627776):CN f l []=u9 f l:=
 uo h (Ck h l [] List.Pairwise.nil) (tI h l hl) ((FP f l []).trans (by simpa using (lJ f l).symm))
def Ny(h:Dc f){a b:List α}(hp:a.Perm b)(ha:a.length<=1099511627776):u9 f a=u9 f b:=
 uo h (tI h a ha) (tI h b (by rw [<-hp.length_eq];exact ha)) ((lJ f a).trans (hp.trans (lJ f b).symm))
def um(f:α->α->Int)(l:List α):(u9 f l).length=l.length:=(lJ f l).length_eq
end
def ve{α:Type} [DecidableEq α]:α->List α->List α
 |_,[]=>[]
 |p,x::t=>if x=p then ve x t else x::ve x t
def Ei [DecidableEq α](p:α):ve p []=[]:=by unfold ve;rfl
def yy [DecidableEq α]{p:α}(h:x=p)(t:List α):ve p (x::t)=ve x t:=by
 conv=>lhs;unfold ve
 rw [br h]
def Ej [DecidableEq α]{p:α}(h: ¬x=p)(t:List α):ve p (x::t)=x::ve x t:=by
 conv=>lhs;unfold ve
 rw [aS h]
def qT{α:Type} [DecidableEq α]:List α->List α
 |[]=>[]
 |x::t=>x::ve x t
def O5{α:Type} [DecidableEq α]: ∀(p:α) (l:List α),(ve p l).length<=l.length
 |_,[]=>fa _
 |p,x::t=>by
  unfold ve
  have:=O5 x t
  split<;>simp<;>omega
def Fe [DecidableEq α](l:List α):(qT l).length<=l.length:=by
 cases l with
 |nil=>exact fa _
 |cons x t=>have:=O5 x t;simp [qT];omega
def ID{α:Type} [DecidableEq α]: ∀(p:α) (l:List α) (z:α),z∈ve p l->z∈l
 |p,x::t,z,h=>by
  unfold ve at h
  split at h
  ·exact lT _ (ID x t z h)
  ·rcases gW.1 h with rfl|h
   ·exact mp ..
   ·exact lT _ (ID x t z h)
def H2{α:Type} [DecidableEq α]: ∀(p:α) (l:List α) (z:α),z∈l->z=p\/z∈ve p l
 |p,x::t,z,h=>by
  unfold ve
  by_cases V:x=p
  ·rw [br V]
   rcases gW.1 h with rfl|h
   ·exact .inl V
   ·rcases H2 x t z h with h|h
    ·exact .inl (h.trans V)
    ·exact .inr h
  ·rw [aS V]
   rcases gW.1 h with rfl|h
   ·exact .inr (mp ..)
   ·rcases H2 x t z h with h|h
    ·exact .inr (by rw [h];exact mp ..)
    ·exact .inr (lT _ h)
def yk [DecidableEq α](l:List α)(z:α):z∈qT l↔z∈l:=by
 cases l with
 |nil=>exact xR
 |cons x t=>
  constructor
  ·intro h
   rcases gW.1 h with rfl|h
   ·exact mp ..
   ·exact lT _ (ID x t z h)
  ·intro h
   rcases gW.1 h with rfl|h
   ·exact mp ..
   ·rcases H2 x t z h with rfl|h
    ·exact mp ..
    ·exact lT _ h
def AZ{α:Type} [DecidableEq α]{f:α->α->Int}(hf:Dc f): ∀(p:α) (l:List α),qS f (p::l)->(p::ve p l).Pairwise (fun a b=>f a b<0)
 |p,[],_=>List.pairwise_singleton _ _
 |p,x::t,h=>by
  have I:=BI.1 h
  unfold ve
  by_cases V:x=p
  ·rw [br V]
   subst V
   exact AZ hf x t I.2
  ·rw [aS V]
   have K:=AZ hf x t I.2
   have hlt:f p x<0:=by
    have:=I.1 x (mp ..)
    rcases Int.lt_or_eq_of_le this with h|h
    ·exact h
    ·exact absurd ((hf.eq p x).1 h).symm V
   refine BI.2 ⟨fun z hz=>?_,K⟩
   rcases gW.1 hz with rfl|hz
   ·exact hlt
   ·exact hf.lt (by omega) (by have:=(BI.1 K).1 z hz;omega) (.inl hlt)
def MJ [DecidableEq α](hf:Dc f){l:List α}(h:qS f l):(qT l).Pairwise (fun a b=>f a b<0):=by
 cases l with
 |nil=>exact List.Pairwise.nil
 |cons x t=>exact AZ hf x t h

abbrev Tt:=i7
def lim(n:Nat):Int:=if 8000<n then 3 else 0
def XL:List (List cS)->Nat->Nat
 |[],n=>n
 |l::t,n=>XL t (max n l.length)
def wG(l:List cS):Bool:=l.all kW
def ac0(ls:List (List cS)):Int:=if ls.all wG then lim (XL ls 0)else 150
def yZ(ls:List (List cS)):yc ls=some (ac0 ls):=by
 have key2: ∀(l:List cS) (nx:Int->Option Int) (e:List cS) (n:Int),sQ nx e n l=if wG l then nx (max n (e.length:Int))else some 150:=by
  intro l
  induction l with
  |nil=>intro nx e n;rfl
  |cons r t ih=>
   intro nx e n
   have ih' :=ih nx e n
   unfold sQ
   rw [yX]
   simp only [bt]
   rw [ih']
   unfold wG
   cases h:kW r<;>simp [h]
 have key: ∀(ls:List (List cS)) (n:Nat),mW ls (n:Int)=some (if ls.all wG then lim (XL ls n)else 150):=by
  intro ls
  induction ls with
  |nil=>
   intro n
   show mW [] (n:Int)=some (lim n)
   unfold mW lim
   by_cases h:8000<n
   ·rw [br (by simp;omega),br h]
   ·rw [aS (by simp;omega),aS h]
  |cons l t ih=>
   intro n
   unfold mW
   rw [key2,show max (n:Int) (l.length:Int)=((max n l.length:Nat):Int)from by omega,ih]
   show _=some (if(wG l&&t.all wG)=true then lim (XL t (max n l.length))else 150)
   cases h:wG l<;>simp
 exact key ls 0
def Vr{n:Nat}(h:n<=8000):lim n=0:=by unfold lim;rw [aS (by omega)]
def Li(l:List cS)(h:l.length<=8000):ac0 [l]=if wG l then 0 else 150:=by
 show(if(wG l&&true)=true then lim (max 0 l.length)else 150)=_
 rw [Vr (by omega),B2]
def HH(l:List cS)(h:l.length<=8000):AA l=some (if wG l then 0 else 150):=by
 have key: ∀m:List cS,nS l m=some (if wG m then 0 else 150):=by
  intro m
  induction m with
  |nil=>unfold nS;rw [aS (by simp;omega)];rfl
  |cons r t ih=>
   unfold nS
   rw [HG]
   simp only [bt]
   rw [ih]
   unfold wG
   cases h:kW r<;>simp [h]
 exact key l
structure uW(l:List cS):Prop where
 len:l.length<=8000
 row: ∀r∈l,r.length<=1000
def uW.perm{a b:List cS}(h:uW a)(hp:a.Perm b):uW b:=⟨by rw [<-hp.length_eq];exact h.len,fun r hr=>h.row r (hp.mem_iff.2 hr)⟩
abbrev rO(l:List cS):List cS:=u9 fe l
def Cb(h:uW l):wh l=some (rO l):=by
 unfold wh
 rw [Cc l (fun r hr=>by have:=h.row r hr;omega) (by have:=h.len;omega)]
 simp only [bt]
 rw [To Tt (fun x y=>yY x y) (by have:=h.len;omega)]
 rfl
def Jk(h:uW l):y5 l=some (if wG l then(rO l,0)else([],150)):=by
 unfold y5
 rw [yZ,Li l h.len,Cb h]
 cases wG l<;>rfl
def dm{n:Int}(h: -9223372036854775808<=n)(K:n<=9223372036854775807):IntKind.i64.wrap n=n:=by rw [xN];omega
def nL{l m:Nat}(h:l<=m)(K:m<=xs.length):eS xs (l:Int) (m:Int)=some ((xs.take m).drop l):=by
 unfold eS
 rw [br (by omega)]
 simp
def QS(p:List cS)(hp:p.length<=8000)(i:Nat)(y:List cS)(hy:i+y.length=p.length): ∀(k i1:Nat) (x:List cS) (x1:Nat),i1+k=y.length->0<i1->x.length=p.length->x1+1<=i+i1->x.drop (i+i1-1)=p.drop (i+i1-1)->
  da sk i y k i1 x (x1:Int)=some (x.take x1++ve ((p[i+i1-1]?).getD []) (p.drop (i+i1))):=by
 intro k
 induction k with
 |zero=>
  intro i1 x x1 I h0 V K h3
  simp only [da]
  have hx1:x1<=x.length:=by omega
  rw [nL hx1 (fa _)]
  simp only [bt,Dg,BH]
  rw [show((0:Int))=((0:Nat):Int)from rfl,nL (lG _) (by simp;omega)]
  simp only [bt,xM]
  have hn:p.drop (i+i1)=[]:=Ae (by omega)
  rw [hn,Ei,tA,Gc (by simp;omega),BF,Nat.min_self]
 |succ k ih=>
  intro i1 x x1 I h0 V K h3
  have e1:x[i+i1]? =p[i+i1]? :=by
   have:=congrArg (fun l:List cS=>l[1]?) h3
   simp only [zU]at this
   rwa [show i+i1-1+1=i+i1 from by omega]at this
  have e0:x[i+i1-1]? =p[i+i1-1]? :=by
   have:=congrArg (fun l:List cS=>l[0]?) h3
   simpa only [zU,vg] using this
  have hlt:i+i1<p.length:=by omega
  have g1:AO x (i:Int) y.length (i1:Int)=some p[i+i1]:=by
   unfold AO
   rw [br (by omega),show(i:Int)+(i1:Int)=((i+i1:Nat):Int)from by omega,cO,e1,p5 hlt]
  have g0:AO x (i:Int) y.length (IntKind.i64.wrap ((i1:Int)-1))=some p[i+i1-1]:=by
   rw [dm (by omega) (by omega)]
   unfold AO
   rw [br (by omega),show(i:Int)+((i1:Int)-1)=((i+i1-1:Nat):Int)from by omega,cO,e0,p5 (by omega)]
  have hd:p.drop (i+i1)=p[i+i1]::p.drop (i+i1+1):=uA hlt
  have hp1:(p[i+i1-1]?).getD []=p[i+i1-1]:=by rw [p5 (by omega)];rfl
  simp only [da,g1,g0,bt,y4]
  rw [hd,hp1]
  by_cases hx2:p[i+i1]=p[i+i1-1]
  ·rw [aS (by simp [hx2])]
   have h3' :x.drop (i+(i1+1)-1)=p.drop (i+(i1+1)-1):=by
    have:=congrArg (List.drop 1) h3
    rwa [qb,qb,show i+i1-1+1=i+(i1+1)-1 from by omega]at this
   rw [ih (i1+1) x x1 (by omega) (by omega) V (by omega) h3']
   rw [yy hx2,show i+(i1+1)-1=i+i1 from by omega,p5 hlt,show i+(i1+1)=i+i1+1 from by omega]
   rfl
  ·rw [br (by simp [hx2]),cO,p5 (by omega)]
   simp only [bt,BH]
   rw [dm (by omega) (by omega),show((x1:Int)+1)=((x1+1:Nat):Int)from by omega]
   have h3' :(x.set x1 p[i+i1]).drop (i+(i1+1)-1)=p.drop (i+(i1+1)-1):=by
    rw [List.drop_set_of_lt (by omega)]
    have:=congrArg (List.drop 1) h3
    rwa [qb,qb,show i+i1-1+1=i+(i1+1)-1 from by omega]at this
   rw [ih (i1+1) _ (x1+1) (by omega) (by omega) (by simpa using V) (by omega) h3']
   rw [Ej hx2,show i+(i1+1)-1=i+i1 from by omega,p5 hlt,show i+(i1+1)=i+i1+1 from by omega]
   have Y:(x.set x1 p[i+i1]).take (x1+1)=x.take x1++[p[i+i1]]:=by
    rw [Ld (by simp;omega),List.take_set_of_le (by omega)]
    simp
   rw [Y]
   simp
def QT(p:List cS)(hp:p.length<=8000):gE p sk=some (qT p):=by
 unfold gE
 by_cases K:p.length<2
 ·rw [br (by simp;omega)]
  match p,K with
  |[],_=>rfl
  |[x],_=>rfl
 ·rw [aS (by simp;omega)]
  have key: ∀(l:List cS) (i:Nat),p.drop i=l->0<i->i<=p.length->qT p=p.take i++ve ((p[i-1]?).getD []) (p.drop i)->dK p sk l i=some (qT p):=by
   intro l
   induction l with
   |nil=>
    intro i I h0 hle h3
    have:=Jc.1 I
    simp only [dK]
    rw [h3,I,u0 (by omega),Ei,tA]
   |cons x t ih=>
    intro i I h0 hle h3
    have hi:i<p.length:=by
     rcases uy i p.length with h|h
     ·exact h
     ·rw [Ae h]at I;cases I
    have V:x=p[i]:=by rw [uA hi]at I;exact(B0 I).1.symm
    have Y:p.drop (i+1)=t:=by rw [<-qb,I];rfl
    have hp1:(p[i-1]?).getD []=p[i-1]:=by rw [p5 (by omega)];rfl
    simp only [dK]
    rw [dm (by omega) (by omega),show(i:Int)-1=((i-1:Nat):Int)from by omega,cO,p5 (by omega)]
    simp only [bt,y4]
    by_cases he:x=p[i-1]
    ·rw [br (by simp [he])]
     rw [nL hle (fa _)]
     simp only [bt,Dg]
     rw [QS p hp i (p.drop i) (by simp;omega) _ 1 p i (by simp;omega) (by omega) rfl (by omega) (by simp)]
     rw [h3,I,hp1,yy he,<-Y,V]
     rw [show i+1-1=i from by omega,p5 hi];rfl
    ·rw [aS (by simp [he])]
     refine ih (i+1) Y (by omega) (by omega) ?_
     rw [h3,I,hp1,Ej he,Ld hi,<-Y,V,show i+1-1=i from by omega,p5 hi]
     rw [ji];rfl
  have hpc:p=p[0]::p.drop 1:=by
   have:=uA (l:=p) (i:=0) (by omega)
   simpa using this
  refine key (p.drop 1) 1 rfl (by omega) (by omega) ?_
  have e:(p[1-1]?).getD []=p[0]:=by simp [p5 (show 0<p.length by omega)]
  rw [e]
  conv=>lhs;rw [hpc]
  have e2:p.take 1=[p[0]]:=by
   conv=>lhs;rw [hpc]
   rfl
  rw [e2];rfl
def Ge(h:uW l):vx l=some (if wG l then(qT (rO l),0)else([],150)):=by
 unfold vx
 rw [yZ,Li l h.len,Cb h]
 simp only [bt]
 rw [QT _ (by rw [um];exact h.len)]
 cases wG l<;>rfl

def Ch(a b:List cS)(ha: ∀r∈a,r.length<=1000):wn a b=some (decide (a=b)):=by
 unfold wn
 by_cases hl:a.length=b.length
 ·rw [aS (by simp [hl])]
  have key: ∀(l:List cS) (i:Nat),a.drop i=l->(∀r∈l,r.length<=1000)->rj b l i=some (decide (l=b.drop i)):=by
   intro l
   induction l with
   |nil=>
    intro i I _
    have h3:a.length<=i:=Jc.1 I
    rw [Ae (by omega)];rfl
   |cons x t ih=>
    intro i I hr
    have hi:i<a.length:=by
     rcases uy i a.length with h|h
     ·exact h
     ·rw [Ae h]at I;cases I
    have Y:=ih (i+1) (by rw [<-qb,I];rfl) (fun r hm=>hr r (lT _ hm))
    simp only [rj]
    rw [cO,p5 (by omega),uA (by omega:i<b.length)]
    simp only [bt,Y]
    rw [nU _ _ (by have:=hr x (mp ..);omega)]
    simp only [bt]
    by_cases V:x=b[i]
    ·rw [aS (by rw [V];simp [Tt.self])]
     exact congrArg some (Fv.2 ⟨fun h=>by rw [V,h],fun h=>(B0 h).2⟩)
    ·rw [br (by simpa using fun h=>V ((Tt.eq x b[i]).1 h))]
     exact congrArg some (yI (fun h=>V (B0 h).1)).symm
  have:=key a 0 rfl ha
  rw [this];simp
 ·rw [br (by simp;omega)]
  have:a≠b:=fun e=>hl (by rw [e])
  simp [this]
def zI(h:uW l):sW l=some (rO l):=by
 have key2: ∀(tl:List cS) (nx:List cS->Option (List cS)) (e:cS) (next:List cS) (done:Bool),e.length<=1000->next.length+tl.length+(if done then 0 else 1)<=100000->
   iA nx e tl next done=nx (next++if done then tl else put fe e tl):=by
  intro tl
  induction tl with
  |nil=>
   intro nx e next done he hl
   cases done with
   |true=>simp [iA,pg]
   |false=>simp only [oo,iq,fU]at hl;simp only [iA,Dd,gx];rw [cA (by simp;omega)];simp [pg,put]
  |cons x t ih=>
   intro nx e next done he hl
   simp only [io]at hl
   cases done with
   |true=>
    simp only [gx]at hl
    simp only [iA,p6,iq,fU,bt,pf]
    rw [cA (by simp;omega)]
    simp only [bt]
    rw [ih nx e _ true he (by simp;omega)]
    simp
   |false=>
    simp only [iq,fU]at hl
    simp only [iA,Dd,gx,pf]
    rw [nU _ _ (by omega)]
    simp only [bt,j9]
    by_cases hc:fe e x<0
    ·rw [br hc,cA (by simp;omega)]
     simp only [bt]
     rw [cA (by simp;omega)]
     simp only [bt]
     rw [ih nx e _ true he (by simp;omega)]
     simp [put,hc]
    ·rw [aS hc,cA (by simp;omega)]
     simp only [bt]
     rw [ih nx e _ false he (by simp;omega)]
     simp [put,hc]
 have key: ∀(m out:List cS),(∀r∈m,r.length<=1000)->out.length+m.length<=100000->ke m out=some (CN fe m out):=by
  intro m
  induction m with
  |nil=>intro out _ _;rfl
  |cons e t ih=>
   intro out I K
   simp only [io]at K
   simp only [ke]
   rw [key2 out _ e [] false (I e (mp ..)) (by simp;omega)]
   simp only [lU,iq,fU]
   rw [ih _ (fun r hr=>I r (lT _ hr)) (by rw [(AC fe e out).length_eq];simp;omega)]
   rfl
 have:=key l [] h.row (by have:=h.len;simp;omega)
 unfold sW
 rw [this,Kh Tt l (by have:=h.len;omega)]
def xc(h:uW l):qo l=some (qT (rO l)):=by
 unfold qo
 rw [zI h]
 simp only [bt]
 have hs:uW (rO l):=h.perm (lJ fe l).symm
 obtain⟨s,hse⟩: ∃s,rO l=s:=⟨_,rfl⟩
 rw [hse]at hs ⊢
 have key: ∀(m:List cS) (i:Nat) (out:List cS),s.drop i=m->i+m.length=s.length->out.length<=i->jS s m i out=some (out++if i=0 then qT m else ve ((s[i-1]?).getD []) m):=by
  intro m
  induction m with
  |nil=>intro i out _ _ _;simp only [jS];split<;>simp [qT,ve]
  |cons x t ih=>
   intro i out I K h3
   simp only [io]at K
   have hlen:=hs.len
   have Y:s.drop (i+1)=t:=by rw [<-qb,I];rfl
   have V:s[i]? =some x:=by
    have:=zU (xs:=s) (i:=i) (j:=0)
    rw [I]at this
    simpa using this.symm
   simp only [jS]
   by_cases hi:i=0
   ·subst hi
    simp only [Int.ofNat_zero,Fx,p6,iq,fU,bt,gx]
    rw [cA (by simp only [io,oo];omega)]
    simp only [bt]
    rw [ih 1 _ Y (by omega) (by simp only [ju,io,oo];omega)]
    simp [qT,V]
   ·have hlt:i-1<s.length:=by omega
    rw [br (by simp;omega),dm (by omega) (by omega),show(i:Int)-1=((i-1:Nat):Int)from by omega,cO,p5 hlt]
    simp only [bt]
    rw [nU _ _ (by have:=hs.row _ (Dk hlt);omega)]
    simp only [bt,JJ]
    rw [aS hi]
    by_cases he:x=s[i-1]
    ·rw [aS (by rw [<-he];simp [Tt.self]),ih (i+1) out Y (by omega) (by omega),aS (by omega)]
     rw [yy (by simpa [p5 hlt] using he),show i+1-1=i from by omega,V];rfl
    ·rw [br (by simpa using fun h=>he ((Tt.eq s[i-1] x).1 h).symm),cA (by simp;omega)]
     simp only [bt]
     rw [ih (i+1) _ Y (by omega) (by simp;omega),aS (by omega)]
     rw [Ej (by simpa [p5 hlt] using he),show i+1-1=i from by omega,V]
     simp
 have:=key s 0 [] rfl (by simp) (fa _)
 simpa using this
def ZW(n:Int)(h0:0<=n)(h:n<=68719476736):jD n=some []:=by
 unfold jD kE
 rw [aS (by simp;omega)]
 have e:IntKind.i64.wrap (n-IntKind.i64.wrap ((0:Int)-0))=n:=by
  rw [dm (n:=(0:Int)-0) (by omega) (by omega),dm (by omega) (by omega)];omega
 rw [e]
 by_cases hp:0<n
 ·rw [br (by simpa using hp)]
  unfold gt0 qe
  rw [br hp]
  simp only [bt]
  rw [br ⟨h0,h⟩]
  simp only [bt]
  rw [show eS (List.replicate n.toNat ([]:cS)) 0 0=some []from by unfold eS;rw [br (by simp;omega)];simp]
  rfl
 ·rw [aS (by simpa using hp)];rfl
def Rb(a b:List cS)(ha:a.length<=8000)(M:b.length<=8000):gy [a,b]=some (a++b):=by
 unfold gy
 simp only [ii]
 rw [dm (n:=(0:Int)+(a.length:Int)) (by omega) (by omega),aS (by simp),dm (by omega) (by omega),aS (by simp;omega),ZW _ (by omega) (by omega)]
 simp only [bt,ig]
 rw [cA (by simp;omega)]
 simp only [bt,lU]
 rw [cA (by omega)]
 rfl

def nM{i j:Int}(l m:Nat)(hi:i=(l:Int))(hj:j=(m:Int))(h:l<=m)(K:m<=xs.length):eS xs i j=some ((xs.take m).drop l):=by
 subst hi hj;exact nL h K
def iX{i:Int}(k:Nat)(hi:i=(k:Int)):di xs i=xs[k]? :=by subst hi;exact cO _ _
def oJ(v:ac):Bool:=gF v&&(v.Kind !=4)
def wb(v:ac):ou v=some (oJ v):=by
 unfold ou oJ
 rw [qh]
 cases gF v<;>simp
def kY(v:ac):m4 v=some (oJ v):=by
 unfold m4 oJ
 rw [gg]
 rfl
def N3(h:oJ v=true):0<=v.Kind/\v.Kind<=3:=by
 obtain⟨k,n,u,s⟩:=v
 unfold oJ gF d5 at h
 simp only [gN,ux,sJ]at h
 obtain⟨I,K⟩:=h
 by_cases h0:k=0
 ·simp [h0]
 by_cases k1:k=1
 ·simp [k1]
 by_cases k2:k=2
 ·simp [k2]
 by_cases k3:k=3
 ·simp [k3]
 simp [h0,k1,k2,k3,K]at I
def pk(tag:Int):Option Nat:=if tag=1\/tag=2 then some 0 else if 4<=tag/\tag<=7 then some 1 else if 12<=tag/\tag<=23 then some 2 else none
def LH(tag:Int):Int:=match pk tag with
 |some k=>(k:Int)
 |none=> -1
variable{tag:Int}
def Cm(tag:Int):r0 tag=some (LH tag):=by
 unfold r0 LH pk
 by_cases I:tag=1\/tag=2
 ·rw [br I,br (by simpa using I)];rfl
 rw [aS I,aS (by simpa using I)]
 by_cases K:4<=tag/\tag<=7
 ·rw [br K,br (by simpa using K)];rfl
 rw [aS K,aS (by simpa using K)]
 by_cases h3:12<=tag/\tag<=23
 ·rw [br h3,br (by simpa using h3)];rfl
 rw [aS h3,aS (by simpa using h3)]
def sU(tag:Int):xa tag=some (LH tag):=by
 unfold xa Az LH pk
 by_cases I:tag=1\/tag=2
 ·rw [br I];rcases I with rfl|rfl<;>rfl
 rw [aS I]
 by_cases K:4<=tag/\tag<=7
 ·rw [br K]
  have:tag=4\/tag=5\/tag=6\/tag=7:=by omega
  rcases this with rfl|rfl|rfl|rfl<;>rfl
 rw [aS K]
 by_cases h3:12<=tag/\tag<=23
 ·rw [br h3,aS (by simp;omega),aS (by simp;omega),aS (by simp;omega),aS (by simp;omega)];rfl
 rw [aS h3]
 by_cases h4:tag=3\/(8<=tag/\tag<=11)
 ·rw [br (by simpa using h4)]
 rw [aS (by simpa using h4),br (by simp;omega)]
 rfl
def M0(n:bZ):Bool:=(mY n).getD false
def ly(n:bZ):mY n=some (M0 n):=by
 unfold M0 mY
 rw [kY]
 split
 ·rfl
 ·split<;>rfl
def Iu(n:bZ):xo n=some (M0 n):=by
 rw [<-ly]
 unfold xo mY
 rw [kY,wb]
inductive Tr where
 |lf (n:bZ)
 |un (n:bZ) (a:Tr)
 |bi (n:bZ) (a b:Tr)
 deriving Inhabited
def Tr.size:Tr->Nat
 | .lf _=>1
 | .un _ a=>a.size+1
 | .bi _ a b=>a.size+b.size+1
def jz(n:bZ)(l r:Int):bZ:={n with L:=l,R:=r}
def Tr.flat:Tr->Nat->List bZ
 | .lf n,_=>[jz n (-1) (-1)]
 | .un n a,s=>a.flat s++[jz n ((s+a.size:Nat)-1) (-1)]
 | .bi n a b,s=>a.flat s++b.flat (s+a.size)++[jz n ((s+a.size:Nat)-1) ((s+a.size+b.size:Nat)-1)]
def abw(k:Nat)(n:bZ):Prop:=pk n.Tag=some k/\M0 n=true/\n.L= -1/\n.R= -1
def Tr.wf:Tr->Prop
 | .lf n=>abw 0 n
 | .un n a=>abw 1 n/\a.wf
 | .bi n a b=>abw 2 n/\a.wf/\b.wf
def Tr.size_pos(t:Tr):0<t.size:=by cases t<;>simp [Tr.size]
def Tr.flat_len(t:Tr): ∀s,(t.flat s).length=t.size:=by
 induction t with
 |lf n=>intro s;rfl
 |un n a ih=>intro s;simp [Tr.flat,Tr.size,ih]
 |bi n a b iha ihb=>intro s;simp [Tr.flat,Tr.size,iha,ihb];omega
def c0:List Tr->Nat
 |[]=>0
 |t::st=>c0 st+t.size
def zL:List Tr->List bZ
 |[]=>[]
 |t::st=>zL st++t.flat (c0 st)
def Kw: ∀st:List Tr,(zL st).length=c0 st
 |[]=>rfl
 |t::st=>by simp [zL,c0,Kw st,t.flat_len]
def JW: ∀st:List Tr,st.length<=c0 st
 |[]=>fa _
 |t::st=>by have:=JW st;have:=t.size_pos;simp [c0];omega
def push(st:List Tr)(n:bZ):Option (List Tr):=
 match pk n.Tag,st with
 |some 0,st=>if M0 n&&n.L== -1&&n.R== -1 then some (.lf (jz n (-1) (-1))::st)else none
 |some 1,a::st=>if M0 n&&n.L==((c0 st+a.size:Nat):Int)-1&&n.R== -1 then some (.un (jz n (-1) (-1)) a::st)else none
 |some 2,b::a::st=>if M0 n&&n.L==((c0 st+a.size:Nat):Int)-1&&n.R==((c0 st+a.size+b.size:Nat):Int)-1 then some (.bi (jz n (-1) (-1)) a b::st)else none
 |_,_=>none
def sv:List bZ->List Tr->Option (List Tr)
 |[],st=>some st
 |n::ns,st=>(push st n).bind (sv ns)
def wfs(st:List Tr):Prop:= ∀t∈st,t.wf
def Bi{l r:Int}(h:n.L=l)(K:n.R=r):jz (jz n (-1) (-1)) l r=n:=by subst h K;rfl
def TC{st st' :List Tr}(h:push st n=some st')(hw:wfs st):zL st' =zL st++[n]/\c0 st' =c0 st+1/\wfs st' :=by
 unfold push at h
 split at h
 ·rename_i k st0 hk
  split at h
  ·rename_i hc
   simp only [gN,uZ]at hc
   obtain⟨⟨I,K⟩,h3⟩:=hc
   cases h
   refine⟨?_,rfl,fun t Y=>?_⟩
   ·simp only [zL,Tr.flat]
    rw [Bi K h3]
   ·rcases gW.1 Y with rfl|Y
    ·exact⟨hk,I,rfl,rfl⟩
    ·exact hw t Y
  ·cases h
 ·rename_i k a st0 hk
  split at h
  ·rename_i hc
   simp only [gN,uZ]at hc
   obtain⟨⟨I,K⟩,h3⟩:=hc
   cases h
   refine⟨?_,by simp [c0,Tr.size];omega,fun t Y=>?_⟩
   ·simp only [zL,Tr.flat]
    rw [Bi K h3,ji]
   ·rcases gW.1 Y with rfl|Y
    ·exact⟨⟨hk,I,rfl,rfl⟩,hw a (mp ..)⟩
    ·exact hw t (lT _ Y)
  ·cases h
 ·rename_i k b a st0 hk
  split at h
  ·rename_i hc
   simp only [gN,uZ]at hc
   obtain⟨⟨I,K⟩,h3⟩:=hc
   cases h
   refine⟨?_,by simp [c0,Tr.size];omega,fun t Y=>?_⟩
   ·simp only [zL,Tr.flat,c0]
    rw [Bi K h3]
    simp only [ji]
   ·rcases gW.1 Y with rfl|Y
    ·exact⟨⟨hk,I,rfl,rfl⟩,hw a (lT _ (mp ..)),hw b (mp ..)⟩
    ·exact hw t (lT _ (lT _ Y))
  ·cases h
 ·cases h
variable{ns:List bZ}
def CP: ∀{ns:List bZ} {st st' :List Tr},sv ns st=some st' ->wfs st->zL st' =zL st++ns/\wfs st'
 |[],st,st',h,hw=>by cases h;simp [hw]
 |n::ns,st,st',h,hw=>by
  unfold sv at h
  cases hp:push st n with
  |none=>rw [hp]at h;cases h
  |some st1=>
   rw [hp]at h
   obtain⟨I,_,h3⟩:=TC hp hw
   obtain⟨h4,h5⟩:=CP (ns:=ns) h h3
   exact⟨by rw [h4,I];simp,h5⟩
def vA: ∀(ns ms:List bZ) (st:List Tr),sv (ns++ms) st=(sv ns st).bind (sv ms)
 |[],ms,st=>rfl
 |n::ns,ms,st=>by
  simp only [Ac,sv]
  cases push st n with
  |none=>rfl
  |some st1=>exact vA ns ms st1
def Qm(t:Tr): ∀(st:List Tr),t.wf->sv (t.flat (c0 st)) st=some (t::st):=by
 induction t with
 |lf n=>
  intro st ⟨I,K,h3,h4⟩
  have hn' :jz n (-1) (-1)=n:=by cases n;simp only at h3 h4;subst h3 h4;rfl
  simp only [Tr.flat,sv,push,hn']
  rw [I]
  simp [K,h3,h4,sv,hn']
 |un n a ih=>
  intro st ⟨⟨I,K,h3,h4⟩,ha⟩
  have hn' :jz n (-1) (-1)=n:=by cases n;simp only at h3 h4;subst h3 h4;rfl
  simp only [Tr.flat]
  rw [vA,ih st ha]
  simp only [bt,sv,push]
  have e1:(jz n (((c0 st+a.size:Nat):Int)-1) (-1)).Tag=n.Tag:=rfl
  rw [e1,I]
  have e2:M0 (jz n (((c0 st+a.size:Nat):Int)-1) (-1))=true:=K
  rw [e2]
  simp only [jz,Fx,Bool.and_self,gx,bt,sv]
  simp only [jz]at hn'
  rw [hn']
 |bi n a b iha ihb=>
  intro st ⟨⟨I,K,h3,h4⟩,ha,M⟩
  have hn' :jz n (-1) (-1)=n:=by cases n;simp only at h3 h4;subst h3 h4;rfl
  simp only [Tr.flat]
  rw [vA,vA,iha st ha]
  simp only [bt]
  have e0:c0 st+a.size=c0 (a::st):=rfl
  rw [e0,ihb (a::st) M]
  simp only [bt,sv,push]
  have e1:(jz n (((c0 (a::st):Nat):Int)-1) (((c0 (a::st)+b.size:Nat):Int)-1)).Tag=n.Tag:=rfl
  rw [e1,I]
  have e2:M0 (jz n (((c0 (a::st):Nat):Int)-1) (((c0 (a::st)+b.size:Nat):Int)-1))=true:=K
  rw [e2]
  simp only [jz,c0,Fx,Bool.and_self,gx,bt,sv]
  simp only [jz]at hn'
  rw [hn']
def oB(ns:List bZ):Option Tr:=match sv ns []with
 |some [t]=>if ns.length<=1000 then some t else none
 |_=>none
def ma{t:Tr}(h:oB ns=some t):t.wf/\ns=t.flat 0/\t.size<=1000:=by
 unfold oB at h
 split at h
 ·rename_i t0 hp
  split at h
  ·rename_i hl
   cases h
   obtain⟨I,K⟩:=CP hp (fun t Y=>by cases Y)
   simp only [zL,c0,lU]at I
   exact⟨K t (mp ..),I.symm,by rw [<-t.flat_len 0,I];exact hl⟩
  ·cases h
 ·cases h
def Nt{t:Tr}(h:t.wf)(hs:t.size<=1000):oB (t.flat 0)=some t:=by
 unfold oB
 have h0:=Qm t [] h
 simp only [c0]at h0
 rw [h0]
 simp only [t.flat_len,hs,gx]
def fl:Tr->Nat->List Int
 | .lf _,s=>[(s:Int)]
 | .un _ a,s=>fl a s++[(s:Int)]
 | .bi _ a b,s=>fl a s++fl b (s+a.size)++[(s:Int)]
def TX:List Tr->List Int
 |[]=>[]
 |t::st=>TX st++fl t (c0 st)
def oG:List Tr->List Int
 |[]=>[]
 |t::st=>oG st++[((c0 st+t.size:Nat):Int)-1]
def zj(t:Tr): ∀s,(fl t s).length=t.size:=by
 induction t with
 |lf n=>intro s;rfl
 |un n a ih=>intro s;simp [fl,Tr.size,ih]
 |bi n a b iha ihb=>intro s;simp [fl,Tr.size,iha,ihb];omega
def xj: ∀st:List Tr,(TX st).length=c0 st
 |[]=>rfl
 |t::st=>by simp [TX,c0,xj st,zj]
def ep: ∀st:List Tr,(oG st).length=st.length
 |[]=>rfl
 |t::st=>by simp [oG,ep st]
def X0(t:Tr)(s:Nat):(fl t s)[t.size-1]? =some (s:Int):=by
 cases t with
 |lf n=>rfl
 |un n a=>simp only [fl,Tr.size];rw [xw (by rw [zj];omega),zj];simp
 |bi n a b=>simp only [fl,Tr.size];rw [xw (by simp [zj]),ju,zj,zj];simp
def Id(t:Tr)(st:List Tr)(rest:List Int):(TX st++fl t (c0 st)++rest)[c0 st+t.size-1]? =some (c0 st:Int):=by
 have:=t.size_pos
 rw [Lc (by rw [ju,xj,zj];omega),xw (by rw [xj];omega),xj,show c0 st+t.size-1-c0 st=t.size-1 from by omega]
 exact X0 t _
def TZ: ∀(ns:List bZ) (st:List Tr),c0 st+ns.length<=100000->mF ns (c0 st) (TX st) (oG st)=some (match sv ns st with
   |some st' =>(TX st',decide (st'.length=1)&&decide (c0 st' <=1000))
   |none=>([],false)):=by
 intro ns
 induction ns with
 |nil=>
  intro st _
  simp only [mF,sv,ep,xj]
  congr 2
  congr 1
  ·rw [De];simp;omega
  ·rw [De];simp;omega
 |cons n ns ih=>
  intro st hs
  simp only [io]at hs
  have hll:=JW st
  unfold mF
  rw [Cm]
  simp only [bt,ep,Iu]
  unfold sv
  unfold push
  -- the parts
  cases hk:pk n.Tag with
  |none=>
   have e:LH n.Tag= -1:=by unfold LH;rw [hk]
   simp [e]
  |some k=>
   have e:LH n.Tag=(k:Int):=by unfold LH;rw [hk]
   have hk3:k=0\/k=1\/k=2:=by
    unfold pk at hk
    repeat' split at hk
    all_goals simp at hk
    all_goals omega
   rw [e]
   rcases hk3 with rfl|rfl|rfl
   ·-- none
    simp only []
    have c1:(decide (((0:Nat):Int)<0)||decide ((st.length:Int)<((0:Nat):Int)))=false:=by simp
    simp only [c1,Dd,gx,bt]
    cases hc:M0 n with
    |false=>simp
    |true=>
     simp only [p6,iq,fU,xr]
     rw [nM st.length st.length (by rw [dm (by omega) (by omega)];omega) rfl (fa _) (by rw [ep];exact fa _)]
     have hd:(List.take st.length (oG st)).drop st.length=[]:=EF (by simp;omega)
     simp only [hd,bt,n9]
     by_cases hL:n.L= -1/\n.R= -1
     ·have M:(n.L== -1&&n.R== -1)=true:=by simp [hL]
      rw [br M,aS (by simp [hL.1,hL.2])]
      rw [cA (by simp only [io,oo,xj];omega)]
      simp only [bt]
      rw [nM (i:=0) 0 st.length rfl (by rw [ep,dm (by omega) (by omega)];omega) (lG _) (by rw [ep];exact fa _)]
      rw [u0 (by rw [ep];exact fa _),xM]
      simp only [bt]
      rw [cA (by simp only [io,oo,ep];omega)]
      simp only [bt]
      have K:=ih (.lf (jz n (-1) (-1))::st) (by simp [c0,Tr.size];omega)
      simp only [c0,Tr.size,TX,fl,oG]at K
      rw [show(((c0 st+1:Nat):Int)-1)=(c0 st:Int)from by omega]at K
      exact K
     ·have M:(n.L== -1&&n.R== -1)=false:=by
       rw [p8];intro h;apply hL;simpa using h
      rw [M]
      rw [br (by
       simp only [Ai,Jd]
       intro h
       have I:(-1:Int)=n.L:=by injection h
       have K:(-1:Int)=n.R:=by injection h with _ h;injection h
       exact hL ⟨I.symm,K.symm⟩)]
      simp
   ·-- one
    cases st with
    |nil=>simp
    |cons a st=>
     simp only []
     have c1:(decide (((1:Nat):Int)<0)||decide (((a::st).length:Int)<((1:Nat):Int)))=false:=by simp;omega
     simp only [c1,Dd,gx,bt]
     cases hc:M0 n with
     |false=>simp
     |true=>
      simp only [p6,iq,fU,xr]
      simp only [io]at hll ⊢
      simp only [c0]at hs hll
      have hap:=a.size_pos
      rw [nM st.length (st.length+1) (by rw [dm (by omega) (by omega)];omega) (by omega) (by omega) (by rw [ep];exact fa _)]
      have hd:(List.take (st.length+1) (oG (a::st))).drop st.length=[((c0 st+a.size:Nat):Int)-1]:=by
       rw [u0 (by rw [ep];exact fa _)]
       simp only [oG]
       rw [JP (by rw [ep];exact fa _),EF (by rw [ep];exact fa _),lU]
      rw [hd]
      simp only [bt,n9]
      rw [iX (c0 st+a.size-1) (by omega)]
      have hf:=Id a st []
      rw [tA]at hf
      simp only [TX]
      rw [hf]
      simp only [bt]
      rw [iX 0 rfl]
      simp only [Je,bt]
      have hset:([(-1:Int),-1].set ((0:Nat):Int).toNat (((c0 st+a.size:Nat):Int)-1))=[((c0 st+a.size:Nat):Int)-1,-1]:=rfl
      rw [hset]
      by_cases hL:n.L=((c0 st+a.size:Nat):Int)-1/\n.R= -1
      ·have M:(n.L==((c0 st+a.size:Nat):Int)-1&&n.R== -1)=true:=by simp [hL]
       rw [br M,aS (by rw [hL.1,hL.2];simp)]
       rw [cA (by simp only [io,oo,ju,xj,zj];omega)]
       simp only [bt]
       rw [nM (i:=0) 0 st.length rfl (by rw [ep,dm (by simp<;>omega) (by simp<;>omega)];simp) (lG _) (by rw [ep];simp)]
       have Y:(List.take st.length (oG (a::st))).drop 0=oG st:=by
        simp only [oG,xM]
        rw [Gc (by rw [ep];exact fa _),u0 (by rw [ep];exact fa _)]
       rw [Y]
       simp only [bt]
       rw [cA (by simp only [io,oo,ep];omega)]
       simp only [bt]
       have K:=ih (.un (jz n (-1) (-1)) a::st) (by simp [c0,Tr.size];omega)
       simp only [c0,Tr.size,TX,fl,oG]at K
       rw [show(((c0 st+(a.size+1):Nat):Int)-1)=((c0 st+a.size:Nat):Int)from by omega]at K
       have hm:min ((c0 (a::st):Nat):Int) (c0 st:Int)=(c0 st:Int):=by simp only [c0];omega
       rw [hm]
       simp only [ji]at K ⊢
       exact K
      ·have M:(n.L==((c0 st+a.size:Nat):Int)-1&&n.R== -1)=false:=by
        rw [p8];intro h;apply hL;simpa using h
       rw [M]
       rw [br (by
        simp only [Ai,Jd]
        intro h
        have I:((c0 st+a.size:Nat):Int)-1=n.L:=by injection h
        have K:(-1:Int)=n.R:=by injection h with _ h;injection h
        exact hL ⟨I.symm,K.symm⟩)]
       simp
   ·-- two
    cases st with
    |nil=>simp
    |cons b st=>
     cases st with
     |nil=>simp
     |cons a st=>
      simp only []
      have c1:(decide (((2:Nat):Int)<0)||decide (((b::a::st).length:Int)<((2:Nat):Int)))=false:=by simp;omega
      simp only [c1,Dd,gx,bt]
      cases hc:M0 n with
      |false=>simp
      |true=>
       simp only [p6,iq,fU,xr]
       simp only [io]at hll ⊢
       simp only [c0]at hs hll
       have hap:=a.size_pos
       have hbp:=b.size_pos
       rw [nM st.length (st.length+1+1) (by rw [dm (by omega) (by omega)];omega) (by omega) (by omega) (by rw [ep];exact fa _)]
       have hd:(List.take (st.length+1+1) (oG (b::a::st))).drop st.length=[((c0 st+a.size:Nat):Int)-1,((c0 st+a.size+b.size:Nat):Int)-1]:=by
        rw [u0 (by rw [ep];exact fa _)]
        simp only [oG,c0,ji]
        rw [JP (by rw [ep];exact fa _),EF (by rw [ep];exact fa _),lU]
        rfl
       rw [hd]
       simp only [bt,n9]
       simp only [TX,c0]
       rw [iX (c0 st+a.size-1) (by omega)]
       rw [Id a st (fl b (c0 st+a.size))]
       simp only [bt]
       rw [iX 0 rfl]
       simp only [Je,bt]
       have hset:([(-1:Int),-1].set ((0:Nat):Int).toNat (((c0 st+a.size:Nat):Int)-1))=[((c0 st+a.size:Nat):Int)-1,-1]:=rfl
       rw [hset]
       rw [iX (c0 st+a.size+b.size-1) (by omega)]
       have hf:=Id b (a::st) []
       rw [tA]at hf
       simp only [TX,c0]at hf
       rw [hf]
       simp only [bt]
       rw [iX (0+1) rfl]
       simp only [Rh,Je,bt]
       have hset2:([((c0 st+a.size:Nat):Int)-1,-1].set ((0+1:Nat):Int).toNat (((c0 st+a.size+b.size:Nat):Int)-1))=[((c0 st+a.size:Nat):Int)-1,((c0 st+a.size+b.size:Nat):Int)-1]:=rfl
       rw [hset2]
       by_cases hL:n.L=((c0 st+a.size:Nat):Int)-1/\n.R=((c0 st+a.size+b.size:Nat):Int)-1
       ·have M:(n.L==((c0 st+a.size:Nat):Int)-1&&n.R==((c0 st+a.size+b.size:Nat):Int)-1)=true:=by rw [hL.1,hL.2];simp
        rw [br M,aS (by rw [hL.1,hL.2];simp)]
        rw [cA (by simp only [io,oo,ju,xj,zj];omega)]
        simp only [bt]
        rw [nM (i:=0) 0 st.length rfl (by rw [ep,dm (by simp;omega) (by simp;omega)];simp;omega) (lG _) (by rw [ep];simp;omega)]
        have Y:(List.take st.length (oG (b::a::st))).drop 0=oG st:=by
         simp only [oG,xM,ji]
         rw [Gc (by rw [ep];exact fa _),u0 (by rw [ep];exact fa _)]
        rw [Y]
        simp only [bt]
        rw [cA (by simp only [io,oo,ep];omega)]
        simp only [bt]
        have K:=ih (.bi (jz n (-1) (-1)) a b::st) (by simp [c0,Tr.size];omega)
        simp only [c0,Tr.size,TX,fl,oG]at K
        rw [show(((c0 st+(a.size+b.size+1):Nat):Int)-1)=((c0 st+a.size+b.size:Nat):Int)from by omega,show c0 st+(a.size+b.size+1)=c0 st+a.size+b.size+1 from by omega]at K
        have hm:min (min (((c0 st+a.size+b.size:Nat)):Int) (c0 st:Int)) ((c0 st+a.size:Nat):Int)=(c0 st:Int):=by omega
        rw [hm]
        simp only [ji]at K ⊢
        exact K
       ·have M:(n.L==((c0 st+a.size:Nat):Int)-1&&n.R==((c0 st+a.size+b.size:Nat):Int)-1)=false:=by
         rw [p8];intro h;apply hL;simpa using h
        rw [M]
        rw [br (by
         simp only [Ai,Jd]
         intro h
         have I:((c0 st+a.size:Nat):Int)-1=n.L:=by injection h
         have K:((c0 st+a.size+b.size:Nat):Int)-1=n.R:=by injection h with _ h;injection h
         exact hL ⟨I.symm,K.symm⟩)]
        simp

def ku{n:Nat}(h:n<=1000000):n<=fm:=by unfold fm;omega
def lW(ns:List bZ):Bool:=(oB ns).isSome
def N5{st:List Tr}(h:sv ns []=some st):c0 st=ns.length:=by
 have:=(CP h (fun t Y=>by cases Y)).1
 rw [<-Kw,this];simp [zL]
def xI(e:cy)(h:e.Nodes.length<=100000):uc e=some (if lW e.Nodes then 0 else 200):=by
 unfold uc AW lW oB
 have:=TZ e.Nodes [] (by simpa [c0] using h)
 simp only [c0,TX,oG]at this
 rw [this]
 cases hp:sv e.Nodes []with
 |none=>rfl
 |some st=>
  have hsz:=N5 hp
  match st,hsz with
  |[],_=>rfl
  |[t],hsz=>
   simp only [bt,hsz]
   by_cases hl:e.Nodes.length<=1000<;>simp [hl]
  |t::t2::st,_=>simp
def Xo(t:Tr):t.wf-> ∀(P R N:List bZ) (fu:Nat),N=P++t.flat P.length++R->t.size<=fu->N.length<=100000->jQ fu ⟨N⟩ (((P.length+t.size:Nat):Int)-1)=some (t.size:Int):=by
 induction t with
 |lf n=>
  intro⟨I,K,h3,h4⟩ P R N fu hN hf hl
  have hNl:=congrArg List.length hN
  simp only [ju,Tr.flat_len]at hNl
  simp only [Tr.size]at hf hNl ⊢
  obtain⟨fu,rfl⟩: ∃k,fu=k+1:=⟨fu-1,by omega⟩
  unfold jQ
  have V:N[P.length]? =some (jz n (-1) (-1)):=by
   rw [hN,ji,xw (fa _),v6];rfl
  rw [aS (by simp;omega),iX P.length (by omega),V]
  have e1:(jz n (-1) (-1)).Tag=n.Tag:=rfl
  simp only [bt]
  rw [e1,sU]
  have e:LH n.Tag=0:=by unfold LH;rw [I];rfl
  simp only [e,bt,ly]
  have e2:M0 (jz n (-1) (-1))=true:=K
  rw [e2]
  simp [jz]
 |un n a ih=>
  intro⟨⟨I,K,h3,h4⟩,ha⟩ P R N fu hN hf hl
  obtain⟨m,hm⟩: ∃m,m=jz n (((P.length+a.size:Nat):Int)-1) (-1):=⟨_,rfl⟩
  have hNl:=congrArg List.length hN
  simp only [ju,Tr.flat_len]at hNl
  simp only [Tr.size]at hf hNl ⊢
  simp only [Tr.flat,<-hm]at hN
  obtain⟨fu,rfl⟩: ∃k,fu=k+1:=⟨fu-1,by omega⟩
  have hpos:=a.size_pos
  have hi:=ih ha P ([m]++R) N fu (by rw [hN];simp only [ji]) (by omega) hl
  unfold jQ
  have V:N[P.length+a.size]? =some m:=by
   rw [hN,ji,ji,<-ji P,xw (by simp [a.flat_len])]
   simp [a.flat_len]
  rw [aS (by simp;omega),iX (P.length+a.size) (by omega),V]
  simp only [bt]
  have e1:m.Tag=n.Tag:=by rw [hm];rfl
  rw [e1,sU]
  have e:LH n.Tag=1:=by unfold LH;rw [I];rfl
  simp only [e,bt,ly]
  have e2:M0 m=true:=by rw [hm];exact K
  have eL:m.L=((P.length+a.size:Nat):Int)-1:=by rw [hm];rfl
  have eR:m.R= -1:=by rw [hm];rfl
  rw [dm (n:=((P.length+(a.size+1):Nat):Int)-1-1) (by omega) (by omega),show(((P.length+(a.size+1):Nat):Int)-1-1)=(((P.length+a.size:Nat):Int)-1)from by omega]
  rw [hi]
  simp only [bt]
  rw [dm (n:=(a.size:Int)+1) (by omega) (by omega)]
  have n1: ¬a.size=0:=by omega
  simp [e2,eL,eR,n1]
 |bi n a b iha ihb=>
  intro⟨⟨I,K,h3,h4⟩,ha,M⟩ P R N fu hN hf hl
  obtain⟨m,hm⟩: ∃m,m=jz n (((P.length+a.size:Nat):Int)-1) (((P.length+a.size+b.size:Nat):Int)-1):=⟨_,rfl⟩
  have hNl:=congrArg List.length hN
  simp only [ju,Tr.flat_len]at hNl
  simp only [Tr.size]at hf hNl ⊢
  simp only [Tr.flat,<-hm]at hN
  obtain⟨fu,rfl⟩: ∃k,fu=k+1:=⟨fu-1,by omega⟩
  have hap:=a.size_pos
  have hbp:=b.size_pos
  have hi1:=iha ha P (b.flat (P.length+a.size)++[m]++R) N fu (by rw [hN];simp only [ji]) (by omega) hl
  have hi2:=ihb M (P++a.flat P.length) ([m]++R) N fu (by rw [hN];simp only [ji,ju,a.flat_len]) (by omega) hl
  rw [ju,a.flat_len]at hi2
  unfold jQ
  have V:N[P.length+a.size+b.size]? =some m:=by
   rw [hN,ji,ji,<-ji P,xw (by simp [a.flat_len,b.flat_len];omega)]
   have:P.length+a.size+b.size-(P++(a.flat P.length++b.flat (P.length+a.size))).length=0:=by simp [a.flat_len,b.flat_len];omega
   rw [this];rfl
  rw [aS (by simp;omega),iX (P.length+a.size+b.size) (by omega),V]
  simp only [bt]
  have e1:m.Tag=n.Tag:=by rw [hm];rfl
  rw [e1,sU]
  have e:LH n.Tag=2:=by unfold LH;rw [I];rfl
  simp only [e,bt,ly]
  have e2:M0 m=true:=by rw [hm];exact K
  have eL:m.L=((P.length+a.size:Nat):Int)-1:=by rw [hm];rfl
  have eR:m.R=((P.length+a.size+b.size:Nat):Int)-1:=by rw [hm];rfl
  rw [dm (n:=((P.length+(a.size+b.size+1):Nat):Int)-1-1) (by omega) (by omega),show(((P.length+(a.size+b.size+1):Nat):Int)-1-1)=(((P.length+a.size+b.size:Nat):Int)-1)from by omega]
  rw [hi2]
  simp only [bt]
  rw [dm (n:=((P.length+a.size+b.size:Nat):Int)-1-(b.size:Int)) (by omega) (by omega),show((P.length+a.size+b.size:Nat):Int)-1-(b.size:Int)=((P.length+a.size:Nat):Int)-1 from by omega]
  rw [hi1]
  simp only [bt]
  rw [dm (n:=(a.size:Int)+(b.size:Int)) (by omega) (by omega),dm (n:=(a.size:Int)+(b.size:Int)+1) (by omega) (by omega)]
  have n1: ¬a.size=0:=by omega
  have n2: ¬b.size=0:=by omega
  have e5:(P.length:Int)+(a.size:Int)+(b.size:Int)-1-(b.size:Int)=(P.length:Int)+(a.size:Int)-1:=by omega
  simp [e2,eL,eR,n1,n2,e5]
def Xp(N:List bZ)(hN:N.length<=100000): ∀(fu q:Nat),q<=N.length->q<fu-> ∃k:Nat,jQ fu ⟨N⟩ ((q:Int)-1)=some (k:Int)/\(k=0\/ ∃(t:Tr) (P R:List bZ),t.wf/\t.size=k/\N=P++t.flat P.length++R/\P.length+k=q):=by
 intro fu
 induction fu with
 |zero=>intro q _ h;omega
 |succ fu ih=>
  intro q hq hf
  unfold jQ
  by_cases h0:q=0
  ·subst h0
   exact⟨0,by rw [br (by simp)];rfl,.inl rfl⟩
  rw [aS (by simp;omega),iX (q-1) (by omega)]
  have hlt:q-1<N.length:=by omega
  rw [p5 hlt]
  obtain⟨n,hn⟩: ∃n,n=N[q-1]:=⟨_,rfl⟩
  rw [<-hn]
  have hd:N=N.take (q-1)++([n]++N.drop q):=by
   have I:=xQ (q-1) N
   rw [uA hlt,<-hn,show q-1+1=q from by omega]at I
   exact I.symm
  simp only [bt,sU,ly]
  cases hk:pk n.Tag with
  |none=>
   have e:LH n.Tag= -1:=by unfold LH;rw [hk]
   exact⟨0,by simp [e],.inl rfl⟩
  |some k=>
   have e:LH n.Tag=(k:Int):=by unfold LH;rw [hk]
   have hk3:k=0\/k=1\/k=2:=by
    unfold pk at hk
    repeat' split at hk
    all_goals simp at hk
    all_goals omega
   cases hc:M0 n with
   |false=>exact⟨0,by simp [e,hc],.inl rfl⟩
   |true=>
    rcases hk3 with rfl|rfl|rfl
    ·rw [e]
     by_cases hL:n.L= -1/\n.R= -1
     ·refine⟨1,by simp [hL],.inr ⟨.lf (jz n (-1) (-1)),N.take (q-1),N.drop q,⟨hk,hc,rfl,rfl⟩,rfl,?_,by simp;omega⟩⟩
      simp only [Tr.flat]
      rw [Bi hL.1 hL.2,ji]
      exact hd
     ·refine⟨0,?_,.inl rfl⟩
      have:(n.L != -1||n.R != -1)=true:=by
       rw [tB,ux,ux]
       by_cases hl:n.L= -1
       ·exact .inr fun h=>hL ⟨hl,h⟩
       ·exact .inl hl
      simp [this]
    ·rw [e,dm (by omega) (by omega)]
     have e9:(((q-1:Nat):Int)-1)=(q:Int)-1-1:=by omega
     obtain⟨r2,K,h2'⟩:=ih (q-1) (by omega) (by omega)
     rw [e9]at K
     rw [K]
     rcases h2' with rfl|⟨t,P,R,hw,hs,hN2,hl⟩
     ·exact⟨0,by simp,.inl rfl⟩
     ·have hp:=t.size_pos
      by_cases hL:n.L=(q:Int)-1-1/\n.R= -1
      ·refine⟨r2+1,?_,.inr ⟨.un (jz n (-1) (-1)) t,P,N.drop q,⟨⟨hk,hc,rfl,rfl⟩,hw⟩,by simp only [Tr.size];omega,?_,by omega⟩⟩
       ·simp only [bt]
        rw [dm (n:=(r2:Int)+1) (by omega) (by omega)]
        have: ¬(r2=0):=by omega
        simp [hL,this]
       ·simp only [Tr.flat]
        rw [Bi (by rw [hL.1];omega) hL.2]
        have Y:N.take (q-1)=P++t.flat P.length:=by
         rw [hN2,Gc (by simp [t.flat_len];omega),u0 (by simp [t.flat_len];omega)]
        rw [Y]at hd
        simpa only [ji] using hd
      ·refine⟨0,?_,.inl rfl⟩
       have:(n.L !=(q:Int)-1-1||n.R != -1)=true:=by
        rw [tB,ux,ux]
        by_cases hl:n.L=(q:Int)-1-1
        ·exact .inr fun h=>hL ⟨hl,h⟩
        ·exact .inl hl
       simp [this]
    ·rw [e,dm (n:=(q:Int)-1-1) (by omega) (by omega)]
     have e9:(((q-1:Nat):Int)-1)=(q:Int)-1-1:=by omega
     obtain⟨r2,K,h2'⟩:=ih (q-1) (by omega) (by omega)
     rw [e9]at K
     rw [K]
     rcases h2' with rfl|⟨t,P,R,hw,hs,hN2,hl⟩
     ·exact⟨0,by simp,.inl rfl⟩
     ·have hp:=t.size_pos
      simp only [bt]
      rw [dm (n:=(q:Int)-1-1-(r2:Int)) (by omega) (by omega)]
      have e8:(((q-1-r2:Nat):Int)-1)=(q:Int)-1-1-(r2:Int):=by omega
      have n2: ¬(r2=0):=by omega
      obtain⟨r3,h3,h3'⟩:=ih (q-1-r2) (by omega) (by omega)
      rw [e8]at h3
      rw [h3]
      rcases h3' with rfl|⟨t3,P3,R3,hw3,hs3,hN3,hl3⟩
      ·exact⟨0,by simp,.inl rfl⟩
      ·have hp3:=t3.size_pos
       have n3: ¬(r3=0):=by omega
       by_cases hL:n.R=(q:Int)-1-1/\n.L=(q:Int)-1-1-(r2:Int)
       ·refine⟨r3+r2+1,?_,.inr ⟨.bi (jz n (-1) (-1)) t3 t,P3,N.drop q,⟨⟨hk,hc,rfl,rfl⟩,hw3,hw⟩,by simp only [Tr.size];omega,?_,by omega⟩⟩
        ·simp only [bt]
         rw [dm (n:=(r3:Int)+(r2:Int)) (by omega) (by omega),dm (n:=(r3:Int)+(r2:Int)+1) (by omega) (by omega)]
         simp [hL,n2,n3]
        ·simp only [Tr.flat]
         rw [Bi (by rw [hL.2];omega) (by rw [hL.1];omega)]
         have Y:N.take (q-1)=P++t.flat P.length:=by
          rw [hN2,Gc (by simp [t.flat_len];omega),u0 (by simp [t.flat_len];omega)]
         have hP:P=N.take P.length:=by
          conv=>rhs;rw [hN2,ji,Gc (fa _),u0 (fa _)]
         have hP3:P=P3++t3.flat P3.length:=by
          rw [hP]
          have:P.length=P3.length+t3.size:=by omega
          conv=>lhs;rw [this,hN3]
          rw [Gc (by simp [t3.flat_len]),u0 (by simp [t3.flat_len])]
         have hPl:P.length=P3.length+t3.size:=by omega
         rw [Y,hPl]at hd
         rw [hP3]at hd
         simpa only [ji] using hd
       ·clear ih hN2 hN3
        refine⟨0,?_,.inl rfl⟩
        have:(n.R !=(q:Int)-1-1||n.L !=(q:Int)-1-1-(r2:Int))=true:=by
         rw [tB,ux,ux]
         by_cases hl:n.R=(q:Int)-1-1
         ·exact .inr fun h=>hL ⟨hl,h⟩
         ·exact .inl hl
        have h' :=this
        rw [tB,ux,ux]at h'
        simp [n2,n3]
        intro I K
        exact absurd K (by rcases h' with h' |h';exact absurd I h';exact h')
def Ay(e:cy):uK e=some (lW e.Nodes):=by
 unfold uK lW
 by_cases h:1<=e.Nodes.length/\e.Nodes.length<=1000
 ·rw [br (by simp;omega),dm (by omega) (by omega)]
  unfold CL
  obtain⟨k,I,K⟩:=Xp e.Nodes (by omega) fm e.Nodes.length (fa _) (Ad (Ah _) (ku (by omega)))
  have h1' :jQ fm e ((e.Nodes.length:Int)-1)=some (k:Int):=I
  rw [h1']
  simp only [bt]
  congr 1
  rw [De]
  constructor
  ·intro hk
   have hk' :k=e.Nodes.length:=by have:=eq_of_beq hk;omega
   rcases K with rfl|⟨t,P,R,hw,hs,hN,hl⟩
   ·omega
   ·have hP:P=[]:=vZ (by omega)
    subst hP
    have hR:R=[]:=by
     have:=congrArg List.length hN
     simp [t.flat_len]at this
     exact vZ (by omega)
    subst hR
    have hN' :e.Nodes=t.flat 0:=by simpa using hN
    rw [hN',Nt hw (by omega)];rfl
  ·intro hi
   cases Y:oB e.Nodes with
   |none=>rw [Y]at hi;cases hi
   |some t=>
    obtain⟨hw,hN,hs⟩:=ma Y
    have hlen:e.Nodes.length=t.size:=by rw [hN,t.flat_len]
    have h3:=Xo t hw [] [] e.Nodes fm (by simpa using hN) (ku (by omega)) (by omega)
    simp only [oo,Ab]at h3
    rw [<-hlen]at h3
    have h4:some (k:Int)=some (e.Nodes.length:Int):=I.symm.trans h3
    simpa using h4
 ·rw [aS (by simp;omega)]
  simp only [bt]
  congr 1
  symm
  rw [p8]
  intro hi
  cases Y:oB e.Nodes with
  |none=>rw [Y]at hi;cases hi
  |some t=>
   obtain⟨hw,hN,hs⟩:=ma Y
   have hlen:e.Nodes.length=t.size:=by rw [hN,t.flat_len]
   have:=t.size_pos
   omega
def Qg(h:lW ns=true):1<=ns.length/\ns.length<=1000:=by
 unfold lW at h
 cases Y:oB ns with
 |none=>rw [Y]at h;cases h
 |some t=>
  obtain⟨hw,hN,hs⟩:=ma Y
  have hlen:ns.length=t.size:=by rw [hN,t.flat_len]
  have:=t.size_pos
  omega

def O7(p:List Int)(hp:p.length<=8000)(i:Nat)(y:List Int)(hy:i+y.length=p.length): ∀(k i1:Nat) (x:List Int) (x1:Nat),i1+k=y.length->0<i1->x.length=p.length->x1+1<=i+i1->x.drop (i+i1-1)=p.drop (i+i1-1)->
  fI i y k i1 x (x1:Int)=some (x.take x1++ve ((p[i+i1-1]?).getD 0) (p.drop (i+i1))):=by
 intro k
 induction k with
 |zero=>
  intro i1 x x1 I h0 V K h3
  simp only [fI]
  have hx1:x1<=x.length:=by omega
  rw [nL hx1 (fa _)]
  simp only [bt,Dg,BH]
  rw [show((0:Int))=((0:Nat):Int)from rfl,nL (lG _) (by simp;omega)]
  simp only [bt,xM]
  have hn:p.drop (i+i1)=[]:=Ae (by omega)
  rw [hn,Ei,tA,Gc (by simp;omega),BF,Nat.min_self]
 |succ k ih=>
  intro i1 x x1 I h0 V K h3
  have e1:x[i+i1]? =p[i+i1]? :=by
   have:=congrArg (fun l:List Int=>l[1]?) h3
   simp only [zU]at this
   rwa [show i+i1-1+1=i+i1 from by omega]at this
  have e0:x[i+i1-1]? =p[i+i1-1]? :=by
   have:=congrArg (fun l:List Int=>l[0]?) h3
   simpa only [zU,vg] using this
  have hlt:i+i1<p.length:=by omega
  have g1:AO x (i:Int) y.length (i1:Int)=some p[i+i1]:=by
   unfold AO
   rw [br (by omega),show(i:Int)+(i1:Int)=((i+i1:Nat):Int)from by omega,cO,e1,p5 hlt]
  have g0:AO x (i:Int) y.length (IntKind.i64.wrap ((i1:Int)-1))=some p[i+i1-1]:=by
   rw [dm (by omega) (by omega)]
   unfold AO
   rw [br (by omega),show(i:Int)+((i1:Int)-1)=((i+i1-1:Nat):Int)from by omega,cO,e0,p5 (by omega)]
  have hd:p.drop (i+i1)=p[i+i1]::p.drop (i+i1+1):=uA hlt
  have hp1:(p[i+i1-1]?).getD 0=p[i+i1-1]:=by rw [p5 (by omega)];rfl
  simp only [fI,g1,g0,bt]
  rw [hd,hp1]
  by_cases hx2:p[i+i1]=p[i+i1-1]
  ·rw [aS (by simp [hx2])]
   have h3' :x.drop (i+(i1+1)-1)=p.drop (i+(i1+1)-1):=by
    have:=congrArg (List.drop 1) h3
    rwa [qb,qb,show i+i1-1+1=i+(i1+1)-1 from by omega]at this
   rw [ih (i1+1) x x1 (by omega) (by omega) V (by omega) h3']
   rw [yy hx2,show i+(i1+1)-1=i+i1 from by omega,p5 hlt,show i+(i1+1)=i+i1+1 from by omega]
   rfl
  ·rw [br (by simp [hx2]),cO,p5 (by omega)]
   simp only [bt,BH]
   rw [dm (by omega) (by omega),show((x1:Int)+1)=((x1+1:Nat):Int)from by omega]
   have h3' :(x.set x1 p[i+i1]).drop (i+(i1+1)-1)=p.drop (i+(i1+1)-1):=by
    rw [List.drop_set_of_lt (by omega)]
    have:=congrArg (List.drop 1) h3
    rwa [qb,qb,show i+i1-1+1=i+(i1+1)-1 from by omega]at this
   rw [ih (i1+1) _ (x1+1) (by omega) (by omega) (by simpa using V) (by omega) h3']
   rw [Ej hx2,show i+(i1+1)-1=i+i1 from by omega,p5 hlt,show i+(i1+1)=i+i1+1 from by omega]
   have Y:(x.set x1 p[i+i1]).take (x1+1)=x.take x1++[p[i+i1]]:=by
    rw [Ld (by simp;omega),List.take_set_of_le (by omega)]
    simp
   rw [Y]
   simp
def O8(p:List Int)(hp:p.length<=8000):lV p=some (qT p):=by
 unfold lV
 by_cases K:p.length<2
 ·rw [br (by simp;omega)]
  match p,K with
  |[],_=>rfl
  |[x],_=>rfl
 ·rw [aS (by simp;omega)]
  have key: ∀(l:List Int) (i:Nat),p.drop i=l->0<i->i<=p.length->qT p=p.take i++ve ((p[i-1]?).getD 0) (p.drop i)->gz p l i=some (qT p):=by
   intro l
   induction l with
   |nil=>
    intro i I h0 hle h3
    have:=Jc.1 I
    simp only [gz]
    rw [h3,I,u0 (by omega),Ei,tA]
   |cons x t ih=>
    intro i I h0 hle h3
    have hi:i<p.length:=by
     rcases uy i p.length with h|h
     ·exact h
     ·rw [Ae h]at I;cases I
    have V:x=p[i]:=by rw [uA hi]at I;exact(B0 I).1.symm
    have Y:p.drop (i+1)=t:=by rw [<-qb,I];rfl
    have hp1:(p[i-1]?).getD 0=p[i-1]:=by rw [p5 (by omega)];rfl
    simp only [gz]
    rw [dm (by omega) (by omega),show(i:Int)-1=((i-1:Nat):Int)from by omega,cO,p5 (by omega)]
    simp only [bt]
    by_cases he:x=p[i-1]
    ·rw [br (by simp [he])]
     rw [nL hle (fa _)]
     simp only [bt,Dg]
     rw [O7 p hp i (p.drop i) (by simp;omega) _ 1 p i (by simp;omega) (by omega) rfl (by omega) (by simp)]
     rw [h3,I,hp1,yy he,<-Y,V]
     rw [show i+1-1=i from by omega,p5 hi];rfl
    ·rw [aS (by simp [he])]
     refine ih (i+1) Y (by omega) (by omega) ?_
     rw [h3,I,hp1,Ej he,Ld hi,<-Y,V,show i+1-1=i from by omega,p5 hi]
     rw [ji];rfl
  have hpc:p=p[0]::p.drop 1:=by
   have:=uA (l:=p) (i:=0) (by omega)
   simpa using this
  refine key (p.drop 1) 1 rfl (by omega) (by omega) ?_
  have e:(p[1-1]?).getD 0=p[0]:=by simp [p5 (show 0<p.length by omega)]
  rw [e]
  conv=>lhs;rw [hpc]
  have e2:p.take 1=[p[0]]:=by
   conv=>lhs;rw [hpc]
   rfl
  rw [e2];rfl

def TM(l:List Int)(z:Int):z∈sortI l↔z∈l:=by unfold sortI;simp
def Da: ∀(ns:List bZ) (out:List Int),out.length+ns.length<=8000-> ∃cs,oU ns out=some cs/\ ∀c,c∈cs↔c∈out\/ ∃n∈ns,n.Tag=2/\n.Col=c
 |[],out,h=>by
  unfold oU Hc
  rw [br (by simp at h;omega)]
  simp only [bt]
  rw [O8 _ (by rw [EM];simpa using h)]
  exact⟨_,rfl,fun c=>by rw [yk,TM];simp⟩
 |n::ns,out,h=>by
  simp only [io]at h
  unfold oU
  by_cases Y:n.Tag=2
  ·rw [br (by simp [Y]),cA (by simp;omega)]
   simp only [bt]
   obtain⟨cs,I,K⟩:=Da ns (out++[n.Col]) (by simp;omega)
   exact⟨cs,I,fun c=>by rw [K];simp [Y,or_assoc,eq_comm]⟩
  ·rw [aS (by simp [Y])]
   obtain⟨cs,I,K⟩:=Da ns out (by omega)
   exact⟨cs,I,fun c=>by rw [K];simp [Y]⟩
def D6(e:cy)(h:lW e.Nodes=true): ∃cs,vW e=some cs/\ ∀c,c∈cs↔ ∃n∈e.Nodes,n.Tag=2/\n.Col=c:=by
 have hl:=Qg h
 unfold vW
 rw [xI e (by omega),h]
 obtain⟨cs,I,K⟩:=Da e.Nodes [] (by simp;omega)
 exact⟨cs,by simpa using I,fun c=>by rw [K];simp⟩
def kn(tag l r:Int):Int×Bool:=(jR tag l r).getD (0,false)
def Ce(tag l r:Int):jR tag l r=some (kn tag l r):=by
 unfold kn jR jl
 simp only [bt]
 repeat' split
 all_goals simp
def k4(k:Int):Prop:=k=0\/k=1\/k=2\/k=3
def aah(tag l r:Int):k4 (kn tag l r).1:=by
 unfold kn jR jl
 simp only [bt]
 repeat' split
 all_goals simp [k4]
variable{kinds:List Int}
def Q9(kinds:List Int)(n:bZ)(x:Int)(V:k4 x)(hk:pk n.Tag=some 1):lb kinds n [x]=some (if(kn n.Tag x 0).2 then((kn n.Tag x 0).1,0)else(0,201)):=by
 obtain⟨tag,L,R,col,v⟩:=n
 have Y:tag=4\/tag=5\/tag=6\/tag=7:=by
  unfold pk at hk
  repeat' split at hk
  all_goals simp at hk
  rename_i h
  have h:4<=tag/\tag<=7:=h
  omega
 rcases Y with rfl|rfl|rfl|rfl<;>rcases V with rfl|rfl|rfl|rfl<;>rfl
def Q8(kinds:List Int)(n:bZ)(x y:Int)(V:k4 x)(hy:k4 y)(hk:pk n.Tag=some 2):lb kinds n [x,y]=some (if(kn n.Tag x y).2 then((kn n.Tag x y).1,0)else(0,201)):=by
 obtain⟨tag,L,R,col,v⟩:=n
 have Y:tag=12\/tag=13\/tag=14\/tag=15\/tag=16\/tag=17\/tag=18\/tag=19\/tag=20\/tag=21\/tag=22\/tag=23:=by
  unfold pk at hk
  repeat' split at hk
  all_goals simp at hk
  rename_i h
  have h:12<=tag/\tag<=23:=h
  omega
 rcases Y with rfl|rfl|rfl|rfl|rfl|rfl|rfl|rfl|rfl|rfl|rfl|rfl<;>rcases V with rfl|rfl|rfl|rfl<;>rcases hy with rfl|rfl|rfl|rfl<;>rfl
def kd(kinds:List Int):Tr->Option Int
 | .lf n=>if n.Tag=1 then some n.Value.Kind else some ((kinds[n.Col.toNat]?).getD 0)
 | .un n a=>(kd kinds a).bind fun x=>if(kn n.Tag x 0).2 then some (kn n.Tag x 0).1 else none
 | .bi n a b=>(kd kinds a).bind fun x=>(kd kinds b).bind fun y=>if(kn n.Tag x y).2 then some (kn n.Tag x y).1 else none
def RQ(kinds:List Int)(n:bZ)(a:Tr):kd kinds (.un n a)=(kd kinds a).bind fun x=>if(kn n.Tag x 0).2 then some (kn n.Tag x 0).1 else none:=rfl
def OG(kinds:List Int)(n:bZ)(a b:Tr):kd kinds (.bi n a b)=(kd kinds a).bind fun x=>(kd kinds b).bind fun y=>if(kn n.Tag x y).2 then some (kn n.Tag x y).1 else none:=rfl
def F3(m:Nat):Tr->Prop
 | .lf n=>n.Tag=2->n.Col<m
 | .un _ a=>F3 m a
 | .bi _ a b=>F3 m a/\F3 m b
def pk0(h:pk tag=some 0):tag=1\/tag=2:=by
 unfold pk at h
 repeat' split at h
 all_goals simp at h
 assumption
def pk2(h:pk tag=some k)(Y:tag=2):k=0:=by subst Y;simp [pk]at h;exact h.symm
def ad6(h:M0 n=true)(Y:n.Tag=1):oJ n.Value=true:=by
 have K:=ly n
 rw [h]at K
 unfold mY at K
 rw [br (by simp [Y]),kY]at K
 simp at K
 exact K.1
def QU(h:M0 n=true)(Y:n.Tag=2):0<=n.Col/\n.Col<16:=by
 have K:=ly n
 rw [h]at K
 unfold mY at K
 rw [aS (by simp [Y]),br (by simp [Y])]at K
 simp at K
 exact⟨K.1.2,K.2⟩
def RR(hk: ∀k∈kinds,k4 k): ∀(t:Tr),t.wf-> ∀{k},kd kinds t=some k->k4 k
 | .lf n,⟨I,K,_,_⟩,k,h=>by
  unfold kd at h
  split at h
  ·rename_i Y
   have:=N3 (ad6 K Y)
   cases h;unfold k4;omega
  ·injection h with h
   subst h
   cases hc:kinds[n.Col.toNat]? with
   |none=>exact .inl rfl
   |some z=>exact hk z (BK hc)
 | .un n a,_,k,h=>by
  unfold kd at h
  cases ha:kd kinds a with
  |none=>rw [ha]at h;cases h
  |some x=>
   rw [ha,bt]at h
   split at h
   ·cases h;exact aah ..
   ·cases h
 | .bi n a b,_,k,h=>by
  unfold kd at h
  cases ha:kd kinds a with
  |none=>rw [ha]at h;cases h
  |some x=>
   cases M:kd kinds b with
   |none=>rw [ha,M]at h;cases h
   |some y=>
    rw [ha,M]at h
    simp only [bt]at h
    split at h
    ·cases h;exact aah ..
    ·cases h
def Qo(stack l:List Int)(h:stack.length+l.length<=100000):rF (stack++l) (l.length:Int)=some (l,stack):=by
 unfold rF dw
 have e:IntKind.i64.wrap (((stack++l).length:Int)-(l.length:Int))=(stack.length:Int):=by
  rw [ju,dm (by omega) (by omega)];omega
 rw [e,nM stack.length (stack++l).length rfl rfl (by simp) (fa _)]
 simp only [bt,Dg,JP (fa _),List.drop_length,lU]
 rw [cA (by simp;omega)]
 simp only [bt,lU]
 rw [nM (i:=0) 0 stack.length rfl rfl (lG _) (by simp)]
 simp
def N8(stack:List Int){b:Int}(h:b≠0):n8 b stack=some (0,b):=by
 unfold n8;rw [br (by simpa using h)]
def pM(h:pk tag=some k):r0 tag=some (k:Int):=by
 rw [Cm];unfold LH;rw [h]
def TD(kinds:List Int)(hk: ∀k∈kinds,k4 k)(t:Tr):t.wf->F3 kinds.length t-> ∀(s:Nat) (rest:List bZ) (stack:List Int),stack.length+t.size<=50000->
  jC (lb kinds) (t.flat s++rest) 0 stack=match kd kinds t with
   |some k=>jC (lb kinds) rest 0 (stack++[k])
   |none=>some (0,201):=by
 induction t with
 |lf n=>
  intro⟨I,K,h3,h4⟩ hc s rest stack hl
  simp only [Tr.flat,Tr.size,Ac,lU]at hl ⊢
  rw [jC]
  have e1:(jz n (-1) (-1)).Tag=n.Tag:=rfl
  rw [e1,pM I]
  have h0:=Qo stack [] (by simp;omega)
  simp only [tA,oo]at h0
  simp only [bt]
  rw [h0]
  simp only [bt]
  have hv:lb kinds (jz n (-1) (-1)) []=(kd kinds (.lf n)).map (fun k=>(k,(0:Int))):=by
   unfold lb oa kd
   simp only [e1]
   rcases pk0 I with Y|Y
   ·rw [br (by simp [Y]),br Y];rfl
   ·rw [aS (by simp [Y]),br (by simp [Y]),aS (by simp [Y])]
    have M:=QU K Y
    have hm:n.Col<kinds.length:=hc Y
    have e2:(jz n (-1) (-1)).Col=n.Col:=rfl
    rw [e2,iX n.Col.toNat (by omega),p5 (by omega)]
    rfl
  rw [hv]
  have: ∃k,kd kinds (.lf n)=some k:=by unfold kd;split<;>exact⟨_,rfl⟩
  obtain⟨k,hk1⟩:=this
  rw [hk1]
  simp only [Option.map_some,bt]
  rw [aS (by simp),cA (by simp;omega)]
  rfl
 |un n a ih=>
  intro⟨⟨I,K,h3,h4⟩,ha⟩ hc s rest stack hl
  simp only [Tr.flat,Tr.size,ji]at hl ⊢
  rw [RQ,ih ha hc s _ stack (by omega)]
  cases V:kd kinds a with
  |none=>rfl
  |some x=>
   have hx4:=RR hk a ha V
   simp only [bt,Ac,lU]
   rw [jC]
   have e1:(jz n (((s+a.size:Nat):Int)-1) (-1)).Tag=n.Tag:=rfl
   rw [e1,pM I]
   have h0:=Qo stack [x] (by simp;omega)
   simp only [bt]
   have e0:(([x]:List Int).length:Int)=((1:Nat):Int):=rfl
   rw [<-e0,h0]
   simp only [bt]
   rw [Q9 kinds _ x hx4 (by rw [e1];exact I),e1]
   cases M:(kn n.Tag x 0).2 with
   |true=>
    simp only [gx,bt]
    rw [aS (by simp),cA (by simp;omega)]
    rfl
   |false=>
    simp only [iq,fU,bt]
    rw [br (by decide),N8 _ (by decide)]
 |bi n a b iha ihb=>
  intro⟨⟨I,K,h3,h4⟩,ha,M⟩ ⟨hca,hcb⟩ s rest stack hl
  simp only [Tr.flat,Tr.size,ji]at hl ⊢
  rw [OG,iha ha hca s _ stack (by omega)]
  cases V:kd kinds a with
  |none=>rfl
  |some x=>
   have hx4:=RR hk a ha V
   simp only [bt]
   rw [ihb M hcb (s+a.size) _ (stack++[x]) (by have:=a.size_pos;simp;omega)]
   cases hy:kd kinds b with
   |none=>rfl
   |some y=>
    have hy4:=RR hk b M hy
    have hap:=a.size_pos
    simp only [bt,Ac,lU]
    rw [jC]
    have e1:(jz n (((s+a.size:Nat):Int)-1) (((s+a.size+b.size:Nat):Int)-1)).Tag=n.Tag:=rfl
    rw [e1,pM I]
    have h0:=Qo stack [x,y] (by simp;omega)
    simp only [bt]
    have e0:(([x,y]:List Int).length:Int)=((2:Nat):Int):=rfl
    have e9:stack++[x]++[y]=stack++[x,y]:=by simp
    rw [<-e0,e9,h0]
    simp only [bt]
    rw [Q8 kinds _ x y hx4 hy4 (by rw [e1];exact I),e1]
    cases M:(kn n.Tag x y).2 with
    |true=>
     simp only [gx,bt]
     rw [aS (by simp),cA (by simp;omega)]
     rfl
    |false=>
     simp only [iq,fU,bt]
     rw [br (by decide),N8 _ (by decide)]
def U2(kinds:List Int)(hk: ∀k∈kinds,k4 k)(t:Tr):t.wf->F3 kinds.length t-> ∀(rest:List bZ) (own:List Int),own.length+t.size<=50000->
  (kd kinds t=none/\dT kinds (t.flat own.length++rest) own=some (0,201))\/
  (∃k w,kd kinds t=some k/\w.length+1=t.size/\dT kinds (t.flat own.length++rest) own=dT kinds rest (own++w++[k])):=by
 induction t with
 |lf n=>
  intro⟨I,K,h3,h4⟩ hc rest own hl
  simp only [Tr.flat,Tr.size,Ac,lU]at hl ⊢
  refine .inr ?_
  have e1:(jz n (-1) (-1)).Tag=n.Tag:=rfl
  unfold kd
  rcases pk0 I with Y|Y
  ·refine⟨_,[],br Y,rfl,?_⟩
   rw [dT]
   rw [e1,br (by simp [Y]),cA (by simp;omega)]
   simp only [bt,tA]
   rfl
  ·refine⟨_,[],aS (by simp [Y]),rfl,?_⟩
   have M:=QU K Y
   have hm:n.Col<kinds.length:=hc Y
   have e2:(jz n (-1) (-1)).Col=n.Col:=rfl
   rw [dT]
   rw [e1,aS (by simp [Y]),br (by simp [Y]),e2,iX n.Col.toNat (by omega),p5 (by omega)]
   simp only [bt,tA,JJ]
   rw [cA (by simp;omega)]
   rfl
 |un n a ih=>
  intro⟨⟨I,K,h3,h4⟩,ha⟩ hc rest own hl
  have hap:=a.size_pos
  simp only [Tr.flat,Tr.size,ji]at hl ⊢
  rcases ih ha hc ([jz n (((own.length+a.size:Nat):Int)-1) (-1)]++rest) own (by omega)with⟨V,he⟩|⟨x,w,V,hw,he⟩
  ·exact .inl ⟨by rw [RQ,V];rfl,by rw [he]⟩
  ·rw [he]
   rw [RQ,V]
   simp only [bt,Ac,lU]
   have e1:(jz n (((own.length+a.size:Nat):Int)-1) (-1)).Tag=n.Tag:=rfl
   have n1:n.Tag≠1:=fun h=>by rw [h]at I;simp [pk]at I
   have n2:n.Tag≠2:=fun h=>by rw [h]at I;simp [pk]at I
   have hstep:dT kinds (jz n (((own.length+a.size:Nat):Int)-1) (-1)::rest) (own++w++[x])=if(kn n.Tag x 0).2 then dT kinds rest (own++w++[x]++[(kn n.Tag x 0).1])else some (0,201):=by
    rw [dT]
    rw [e1,aS (by simpa using n1),aS (by simpa using n2)]
    have eL:(jz n (((own.length+a.size:Nat):Int)-1) (-1)).L=((own.length+a.size:Nat):Int)-1:=rfl
    have eR:(jz n (((own.length+a.size:Nat):Int)-1) (-1)).R= -1:=rfl
    rw [eL,eR,iX (own++w).length (by simp;omega),xw (fa _),v6]
    simp only [Je,bt]
    rw [aS (by decide)]
    unfold re
    rw [e1,Ce]
    simp only [bt]
    cases M:(kn n.Tag x 0).2 with
    |true=>
     simp only [p6,iq,fU,gx]
     rw [cA (by simp;omega)];rfl
    |false=>rfl
   rw [hstep]
   cases M:(kn n.Tag x 0).2 with
   |true=>exact .inr ⟨(kn n.Tag x 0).1,w++[x],by simp,by simp;omega,by simp⟩
   |false=>exact .inl ⟨by simp,by simp⟩
 |bi n a b iha ihb=>
  intro⟨⟨I,K,h3,h4⟩,ha,M⟩ ⟨hca,hcb⟩ rest own hl
  have hap:=a.size_pos
  have hbp:=b.size_pos
  simp only [Tr.flat,Tr.size,ji]at hl ⊢
  obtain⟨m,hm⟩: ∃m,m=jz n (((own.length+a.size:Nat):Int)-1) (((own.length+a.size+b.size:Nat):Int)-1):=⟨_,rfl⟩
  rw [<-hm]
  rcases iha ha hca (b.flat (own.length+a.size)++([m]++rest)) own (by omega)with⟨V,he⟩|⟨x,w,V,hw,he⟩
  ·exact .inl ⟨by rw [OG,V];rfl,by rw [he]⟩
  ·rw [he]
   have hl2:(own++w++[x]).length=own.length+a.size:=by simp;omega
   rw [<-hl2]
   rcases ihb M hcb ([m]++rest) (own++w++[x]) (by rw [hl2];omega)with⟨hy,he2⟩|⟨y,w2,hy,hw2,he2⟩
   ·exact .inl ⟨by rw [OG,V,hy];rfl,by rw [he2]⟩
   ·rw [he2]
    rw [OG,V,hy]
    simp only [bt,Ac,lU]
    have e1:m.Tag=n.Tag:=by rw [hm];rfl
    have eL:m.L=((own.length+a.size:Nat):Int)-1:=by rw [hm];rfl
    have eR:m.R=((own.length+a.size+b.size:Nat):Int)-1:=by rw [hm];rfl
    have n1:n.Tag≠1:=fun h=>by rw [h]at I;simp [pk]at I
    have n2:n.Tag≠2:=fun h=>by rw [h]at I;simp [pk]at I
    have hstep:dT kinds (m::rest) (own++w++[x]++w2++[y])=if(kn n.Tag x y).2 then dT kinds rest (own++w++[x]++w2++[y]++[(kn n.Tag x y).1])else some (0,201):=by
     rw [dT]
     rw [e1,aS (by simpa using n1),aS (by simpa using n2)]
     rw [eL,eR,iX (own++w).length (by simp;omega)]
     have g1:(own++w++[x]++w2++[y])[(own++w).length]? =some x:=by
      rw [ji,ji,xw (fa _),v6];rfl
     rw [g1]
     simp only [bt]
     rw [br (by rw [j9];omega),iX (own++w++[x]++w2).length (by simp;omega)]
     have g2:(own++w++[x]++w2++[y])[(own++w++[x]++w2).length]? =some y:=by
      rw [xw (fa _),v6];rfl
     rw [g2]
     simp only [bt]
     unfold re
     rw [e1,Ce]
     simp only [bt]
     cases M:(kn n.Tag x y).2 with
     |true=>
      simp only [p6,iq,fU,gx]
      rw [cA (by simp;omega)];rfl
     |false=>rfl
    rw [hstep]
    cases M:(kn n.Tag x y).2 with
    |true=>exact .inr ⟨(kn n.Tag x y).1,w++[x]++w2++[y],by simp,by simp;omega,by simp⟩
    |false=>exact .inl ⟨by simp,by simp⟩
def ue(m:Nat)(ns:List bZ):Bool:=ns.all fun n=> !((n.Tag==2)&&decide ((m:Int)<=n.Col))
def O9(m:Nat)(n:bZ)(ns:List bZ):ue m (n::ns)=(!((n.Tag==2)&&decide ((m:Int)<=n.Col))&&ue m ns):=rfl
def A3(m:Nat)(t:Tr):t.wf-> ∀s,ue m (t.flat s)=true->F3 m t:=by
 induction t with
 |lf n=>
  intro _ s h Y
  simp only [ue,Tr.flat,BE,List.all_nil,B2]at h
  have e1:(jz n (-1) (-1)).Tag=n.Tag:=rfl
  have e2:(jz n (-1) (-1)).Col=n.Col:=rfl
  simp [e1,e2,Y]at h
  exact h
 |un n a ih=>
  intro⟨_,ha⟩ s h
  simp only [ue,Tr.flat,List.all_append,gN]at h
  exact ih ha s h.1
 |bi n a b iha ihb=>
  intro⟨_,ha,M⟩ s h
  simp only [ue,Tr.flat,List.all_append,gN]at h
  exact⟨iha ha s h.1.1,ihb M _ h.1.2⟩
def BT(kinds:List Int):Bool:=kinds.all fun k=>decide (0<=k)&&decide (k<=3)
def DW(k:Int)(ks:List Int):BT (k::ks)=((decide (0<=k)&&decide (k<=3))&&BT ks):=rfl
def Bo(h:BT kinds=true){k:Int}(hk:k∈kinds):k4 k:=by
 have:=p7.1 h k hk
 simp at this
 unfold k4;omega
def gh(e:cy)(kinds:List Int):Int×Int:=
 if lW e.Nodes then if BT kinds then if ue kinds.length e.Nodes then match (oB e.Nodes).bind (kd kinds)with
  |some k=>(k,0)
  |none=>(0,201)else(0,2)else(0,2)else(0,200)
def I1(e:cy)(kinds:List Int): ∀cs:List Int,oT e kinds cs=if cs.all (fun c=>decide (c<(kinds.length:Int)))then rp e (lb kinds)else some (0,2)
 |[]=>by
  unfold oT
  cases rp e (lb kinds)<;>rfl
 |c::cs=>by
  unfold oT
  rw [I1 e kinds cs]
  by_cases h:(kinds.length:Int)<=c
  ·rw [br (by simpa using h),aS (by simp;omega)]
  ·rw [aS (by simpa using h)]
   have:c<(kinds.length:Int):=by omega
   simp [this]
def zq(e:cy)(kinds:List Int)(hl:e.Nodes.length<=50000):vU e kinds=some (gh e kinds):=by
 unfold vU gh
 rw [xI e (by omega)]
 cases hr:lW e.Nodes with
 |false=>rfl
 |true=>
  simp only [gx,bt]
  rw [aS (by decide)]
  have key: ∀ks:List Int,td e kinds ks=if BT ks then(vW e).bind (oT e kinds)else some (0,2):=by
   intro ks
   induction ks with
   |nil=>rfl
   |cons k ks ih=>
    unfold td
    rw [ih]
    by_cases h:k<0\/3<k
    ·rw [br (by simpa using h),aS (by simp [BT];omega)]
    ·rw [aS (by simpa using h)]
     have I:(decide (0<=k)&&decide (k<=3))=true:=by simp;omega
     rw [DW,I,xr]
  rw [key]
  cases hk:BT kinds with
  |false=>rfl
  |true=>
   simp only [gx]
   obtain⟨cs,I,K⟩:=D6 e hr
   rw [I,bt,I1]
   have hci:cs.all (fun c=>decide (c<(kinds.length:Int)))=ue kinds.length e.Nodes:=by
    rw [De]
    simp only [p7,j9,ue,Ai,Bool.and_eq_false_iff,beq_eq_false_iff_ne,Jd]
    constructor
    ·intro h n hn
     by_cases Y:n.Tag=2
     ·exact .inr (by have:=h _ ((K n.Col).2 ⟨n,hn,Y,rfl⟩);omega)
     ·exact .inl Y
    ·intro h c hc
     obtain⟨n,hn,Y,rfl⟩:=(K c).1 hc
     rcases h n hn with h|h
     ·exact absurd Y h
     ·omega
   rw [hci]
   cases hc:ue kinds.length e.Nodes with
   |false=>rfl
   |true=>
    simp only [gx]
    cases Y:oB e.Nodes with
    |none=>unfold lW at hr;rw [Y]at hr;cases hr
    |some t=>
     obtain⟨hw,hN,hs⟩:=ma Y
     have hct:=A3 kinds.length t hw 0 (by rw [<-hN];exact hc)
     have:=TD kinds (fun k=>Bo hk) t hw hct 0 [] [] (by simp;omega)
     rw [tA,<-hN]at this
     unfold rp
     rw [this]
     simp only [bt]
     cases kd kinds t with
     |none=>rfl
     |some k=>rfl
def nk(e:cy)(kinds:List Int):tJ e kinds=some (gh e kinds):=by
 unfold tJ gh
 rw [Ay e]
 cases hr:lW e.Nodes with
 |false=>rfl
 |true=>
  simp only [gx,bt,p6,iq,fU]
  have key2: ∀ns:List bZ,pE e kinds ns=if ue kinds.length ns then dT kinds e.Nodes []else some (0,2):=by
   intro ns
   induction ns with
   |nil=>rfl
   |cons n ns ih=>
    unfold pE
    rw [ih,O9]
    cases ((n.Tag==2)&&decide ((kinds.length:Int)<=n.Col))<;>simp
  have key: ∀ks:List Int,rd e kinds ks=if BT ks then pE e kinds e.Nodes else some (0,2):=by
   intro ks
   induction ks with
   |nil=>rfl
   |cons k ks ih=>
    unfold rd
    rw [ih]
    by_cases h:k<0\/3<k
    ·rw [br (by simpa using h),aS (by simp [BT];omega)]
    ·rw [aS (by simpa using h)]
     have I:(decide (0<=k)&&decide (k<=3))=true:=by simp;omega
     rw [DW,I,xr]
  rw [key,key2]
  cases hk:BT kinds with
  |false=>rfl
  |true=>
   cases hc:ue kinds.length e.Nodes with
   |false=>rfl
   |true=>
    simp only [gx]
    cases Y:oB e.Nodes with
    |none=>unfold lW at hr;rw [Y]at hr;cases hr
    |some t=>
     obtain⟨hw,hN,hs⟩:=ma Y
     have hct:=A3 kinds.length t hw 0 (by rw [<-hN];exact hc)
     have:=U2 kinds (fun k=>Bo hk) t hw hct [] [] (by simp;omega)
     rw [tA,oo,<-hN]at this
     simp only [bt]
     rcases this with⟨I,K⟩|⟨k,w,I,K,h3⟩
     ·rw [I,K]
     ·rw [I,h3]
      unfold dT
      have hls:t.size<=1000:=hs
      rw [lU,iX w.length (by rw [dm (by simp<;>omega) (by simp<;>omega)];simp),xw (fa _),v6]
      rfl
def arB(n:bZ):Bool:=n.Tag==4||decide (12<=n.Tag)&&decide (n.Tag<=15)

def zV:ac:=⟨0,0,0,[]⟩
def bV(b:Bool):ac:=⟨1,if b then 1 else 0,0,[]⟩
def iV(n:Int):ac:=⟨2,n,0,[]⟩
def sV(s:C0):ac:=⟨3,0,0,s⟩
def r64(n:Int):Prop:= -9223372036854775808<=n/\n<=9223372036854775807
inductive Pl:ac->Prop
 |z:Pl zV
 |b (b:Bool):Pl (bV b)
 |i (n:Int) (h:r64 n):Pl (iV n)
 |s (s:C0) (h:s.length<=40):Pl (sV s)
def Pl.plain(h:Pl v):oJ v=true:=by
 cases h with
 |z=>rfl
 |b b=>cases b<;>rfl
 |i n h=>simp [oJ,gF,d5,iV]
 |s s h=>
  have h' :(s.length:Int)<=40:=by omega
  simp [oJ,gF,d5,sV,h']
def Pl.right(h:Pl v):gF v=true:=by
 have:=h.plain
 unfold oJ at this
 rw [gN]at this
 exact this.1
def HM(h:oJ v=true)(hr:r64 v.N):Pl v:=by
 obtain⟨k,n,u,s⟩:=v
 unfold oJ gF d5 at h
 simp only [gN,ux,sJ]at h
 obtain⟨I,K⟩:=h
 by_cases k0:k=0
 ·subst k0
  simp at I
  rw [show(⟨0,n,u,s⟩:ac)=zV from by simp only [zV];simp [I]]
  exact .z
 by_cases k1:k=1
 ·subst k1
  simp at I
  obtain⟨⟨rfl,rfl⟩,I⟩:=I
  rcases I with rfl|rfl
  ·exact .b false
  ·exact .b true
 by_cases k2:k=2
 ·subst k2
  simp at I
  obtain⟨rfl,rfl⟩:=I
  exact .i n hr
 by_cases k3:k=3
 ·subst k3
  simp at I
  obtain⟨⟨rfl,rfl⟩,I⟩:=I
  exact .s s (by omega)
 simp [k0,k1,k2,k3,K]at I
def Pl.r64(h:Pl v):r64 v.N:=by
 cases h with
 |z=>exact⟨by decide,by decide⟩
 |b b=>cases b<;>exact⟨by decide,by decide⟩
 |i n h=>exact h
 |s s h=>exact⟨by simp [sV],by simp [sV]⟩
def Pl.check(h:Pl v):mT v=some 0:=by rw [qh,h.right];rfl
def Pl.plain_eq(h:Pl v):ou v=some true:=by rw [wb,h.plain]
def U1{b:ac}(ha:Pl a)(M:Pl b):se [a,b]=some 0:=by
 unfold se kV kV kV
 simp [ha.check,M.check]
def Pe{b:ac}(ha:Pl a)(M:Pl b)(tw:Int->Int->Option (Int×Bool)):uU a b tw=
  if(a.Kind=0\/a.Kind=2)/\(b.Kind=0\/b.Kind=2)then(if a.Kind=0\/b.Kind=0 then some (zV,0)else(tw a.N b.N).bind fun r=>if r.2 then some (iV r.1,0)else some (zV,140))else some (zV,2):=by
 unfold uU sy lY lY lY
 simp only [ha.check,M.check,bt]
 cases ha<;>cases M<;>simp [zV,bV,iV,sV,rM,qE]
 congr 1
 funext r
 cases r.2<;>rfl
inductive Tu:ac->Prop
 |z:Tu zV
 |b (b:Bool):Tu (bV b)
def Tu.pl(h:Tu v):Pl v:=by cases h;exact .z;exact .b _
def kC(h:Pl v):Tu v↔v.Kind<=1:=by
 constructor
 ·intro h;cases h<;>simp [zV,bV]
 ·intro hk
  cases h with
  |z=>exact .z
  |b b=>exact .b b
  |i n h=>simp [iV]at hk
  |s s h=>simp [sV]at hk
def tn(v:ac):Int:=if v.Kind=0 then 1 else 2*v.N
def tv(n:Int):ac:=if n=0 then bV false else if n=1 then zV else bV true
def UO(h:Tu v):tn v=0\/tn v=1\/tn v=2:=by
 cases h with
 |z=>exact .inr (.inl rfl)
 |b b=>cases b;exact .inl rfl;exact .inr (.inr rfl)
def G4(h:Tu v):Am v=some (tn v):=by
 cases h with
 |z=>rfl
 |b b=>cases b<;>rfl
def UJ{n:Int}(h:n=0\/n=1\/n=2):Tu (tv n):=by
 rcases h with rfl|rfl|rfl
 ·exact .b false
 ·exact .z
 ·exact .b true
def Qz(h:Pl v)(hn: ¬Tu v):decide (1<v.Kind)=true:=by
 rw [kC h]at hn;simp;omega
def adB(h:Tu v):decide (1<v.Kind)=false:=by
 have:=(kC h.pl).1 h;simp;omega
def IQ(a b:ac):ac:=tv (min (tn a) (tn b))
def WY(a b:ac):ac:=tv (max (tn a) (tn b))
def Jx(a:ac):ac:=tv (2-tn a)
def Lj{b:ac}(ha:Tu a)(M:Tu b):vK a b=some (IQ a b,0):=by
 cases ha with
 |z=>cases M with
  |z=>rfl
  |b b=>cases b<;>rfl
 |b x=>cases M with
  |z=>cases x<;>rfl
  |b b=>cases x<;>cases b<;>rfl
def Nq{b:ac}(ha:Tu a)(M:Tu b):xV a b=some (WY a b,0):=by
 cases ha with
 |z=>cases M with
  |z=>rfl
  |b b=>cases b<;>rfl
 |b x=>cases M with
  |z=>cases x<;>rfl
  |b b=>cases x<;>cases b<;>rfl
def Du(ha:Tu a):tG a=some (Jx a,0):=by
 cases ha with
 |z=>rfl
 |b x=>cases x<;>rfl
def H5{b:ac}(ha:Pl a)(M:Pl b)(h: ¬(Tu a/\Tu b))(tw:List Int->Option Int):qf tw [a,b]=some (zV,2):=by
 unfold qf
 rw [U1 ha M]
 simp only [bt]
 rw [aS (by decide)]
 unfold nJ
 by_cases I:Tu a
 ·have K: ¬Tu b:=fun k=>h ⟨I,k⟩
  rw [adB I]
  simp only [iq,fU,G4 I,bt]
  rw [cA (by simp)]
  simp only [bt]
  unfold nJ
  rw [Qz M K,br rfl];rfl
 ·rw [Qz ha I,br rfl];rfl
def Jg(ha:Pl a)(h: ¬Tu a):tG a=some (zV,2):=by
 unfold tG qf se kV kV
 rw [ha.check]
 simp only [bt]
 rw [aS (by decide)]
 unfold nJ
 simp only [bt]
 rw [aS (by decide),Qz ha h,br rfl];rfl
def IG(a b:ac):Int:=(nd a b).getD 0
def EI{b:ac}(ha:Pl a)(M:Pl b):nd a b=some (IG a b):=by
 unfold IG
 have: ∃c,nd a b=some c:=by
  unfold nd
  rw [ha.plain_eq,M.plain_eq]
  simp only [bt,p6,Dd,gx,fU]
  unfold kj pN i9 mP rC kG
  simp only [B5,bt,iq,fU]
  have I: ∀x y:Int,∃c,(if decide (x<y)=true then some (-1:Int)else if decide (y<x)=true then some 1 else some 0)=some c:=by
   intro x y;repeat' split
   all_goals exact⟨_,rfl⟩
  obtain⟨c1,e1⟩:=I a.Kind b.Kind
  obtain⟨c2,e2⟩:=I a.N b.N
  rw [e1,e2]
  simp only [bt]
  unfold oX iC iC iC iC
  repeat' split
  all_goals exact⟨_,rfl⟩
 obtain⟨c,h⟩:=this
 rw [h];rfl
def XX{b:ac}(ha:Pl a)(M:Pl b){is:Int->Option Bool}{f:Int->Bool}(hf: ∀c,is c=some (f c)):tF a b is=
  some (if a.Kind=0\/b.Kind=0 then(zV,0)else if a.Kind=b.Kind then(bV (f (IG a b)),0)else(zV,2)):=by
 unfold tF
 rw [U1 ha M]
 simp only [bt,EI ha M,hf,rM]
 have hbv: ∀x,rN x=some (bV x):=fun x=>by cases x<;>rfl
 simp only [hbv,bt]
 cases ha<;>cases M<;>simp [zV,bV,iV,sV]

def Ed:List (Int×(ac->ac->Option (ac×Int))):=(Bt).getD []
def MG:Bt=some Ed:=rfl
def Zx(tag:Int):ac->ac->Option (ac×Int):=(rm Ed tag).getD (fun _ _=>none)
def dz4:Zx 4=oS Bw:=rfl
def dz5:Zx 5=oS tG:=rfl
def dz6:Zx 6=qt true:=rfl
def dz7:Zx 7=qt false:=rfl
def agb:Zx 20=nq qg:=rfl
def aga:Zx 22=vK:=rfl
def af9:Zx 23=xV:=rfl
def QY(tag x y:Int):Int×Bool:=(if tag=12 then uV x y else if tag=13 then sC x y else if tag=14 then oz x y else oA x y).getD (0,false)
def rk(n:Int):r64 (IntKind.i64.wrap n):=by rw [xN];unfold r64;omega
def JR{n:Int}(h:0<=n)(K:n<18446744073709551616):IntKind.u64.wrap n=n:=by rw [wP];omega
def wW(n:Int)(h:r64 n):sb n=some (n.natAbs:Int):=by
 unfold r64 at h
 unfold sb
 by_cases hn:n<0
 ·rw [br (by simpa using hn),wP,wP]
  congr 1;omega
 ·rw [aS (by simpa using hn),wP]
  congr 1;omega
def aaV(tag x y:Int)(V:r64 x)(hy:r64 y):(if tag=12 then uV x y else if tag=13 then sC x y else if tag=14 then oz x y else oA x y)=some (QY tag x y)/\r64 (QY tag x y).1:=by
 unfold QY
 split
 ·exact⟨rfl,rk _⟩
 ·split
  ·exact⟨rfl,rk _⟩
  ·split
   ·unfold oz ph o0
    simp only [wW x V,wW y hy,bt]
    split
    ·exact⟨rfl,rk _⟩
    ·exact⟨rfl,rk _⟩
   ·unfold oA
    by_cases h0:y=0
    ·subst h0;exact⟨rfl,show r64 0 from⟨by decide,by decide⟩⟩
    ·rw [aS (by simpa using h0)]
     simp only [wW x V,wW y hy,bt]
     have hn:nz ((y.natAbs:Nat):Int)=some ():=by
      unfold nz
      rw [aS (by omega)]
     rw [hn]
     unfold o0
     simp only [bt]
     split
     ·exact⟨rfl,rk _⟩
     ·exact⟨rfl,rk _⟩
def z8(tag:Int)(a b:ac):ac×Int:=
 if(a.Kind=0\/a.Kind=2)/\(b.Kind=0\/b.Kind=2)then(if a.Kind=0\/b.Kind=0 then(zV,0)else if(QY tag a.N b.N).2 then(iV (QY tag a.N b.N).1,0)else(zV,140))else(zV,2)
def gv(f:Int->Bool)(a b:ac):ac×Int:=if a.Kind=0\/b.Kind=0 then(zV,0)else if a.Kind=b.Kind then(bV (f (IG a b)),0)else(zV,2)
def HY(q:ac×Int):ac×Int:=if q.2=0 then(Jx q.1,0)else q
def EU(tag:Int)(a b:ac):ac×Int:=
 if tag=4 then z8 13 (iV 0) a else
 if tag=5 then(if a.Kind<=1 then(Jx a,0)else(zV,2))else
 if tag=6 then(bV (a.Kind==0),0)else
 if tag=7 then(bV (a.Kind !=0),0)else
 if tag<=15 then z8 tag a b else
 if tag=16 then gv (fun c=>c==0) a b else
 if tag=17 then HY (gv (fun c=>c==0) a b)else
 if tag=18 then gv (fun c=>decide (c<0)) a b else
 if tag=19 then HY (gv (fun c=>decide (c<0)) b a)else
 if tag=20 then gv (fun c=>decide (c<0)) b a else
 if tag=21 then HY (gv (fun c=>decide (c<0)) a b)else
 if tag=22 then(if a.Kind<=1/\b.Kind<=1 then(IQ a b,0)else(zV,2))else
 (if a.Kind<=1/\b.Kind<=1 then(WY a b,0)else(zV,2))
def uQ(f:Int->Bool)(a b:ac):(gv f a b).2=0->Tu (gv f a b).1:=by
 unfold gv
 split
 ·intro _;exact .z
 ·split
  ·intro _;exact .b _
  ·intro h;cases h
def E2(f:Int->Bool)(a b:ac):(gv f a b).2≠0->gv f a b=(zV,2):=by
 unfold gv
 split
 ·intro h;exact absurd rfl h
 ·split
  ·intro h;exact absurd rfl h
  ·intro _;rfl
def HW{do1:ac->ac->Option (ac×Int)}{b:ac}{f:Int->Bool}{x y:ac}(h:do1 a b=some (gv f x y)):wC do1 a b=some (HY (gv f x y)):=by
 unfold wC HY
 rw [h]
 simp only [bt]
 by_cases h0:(gv f x y).2=0
 ·rw [aS (by simp [h0]),br h0,Du (uQ f x y h0)];rfl
 ·rw [br (by simpa using h0),aS h0]
def IM{b:ac}(ha:Pl a)(M:Pl b){tw:Int->Int->Option (Int×Bool)}(h: ∀x y,tw x y=if tag=12 then uV x y else if tag=13 then sC x y else if tag=14 then oz x y else oA x y):
  (uU a b tw).bind (fun r=>some (r.1,r.2))=some (z8 tag a b):=by
 rw [Pe ha M]
 unfold z8
 split
 ·split
  ·rfl
  ·rw [h,(aaV tag a.N b.N ha.r64 M.r64).1]
   simp only [bt]
   split<;>rfl
 ·rfl
def Kr{b:ac}(ha:Pl a)(M:Pl b){is:Int->Option Bool}{f:Int->Bool}(hf: ∀c,is c=some (f c)):(tF a b is).bind (fun r=>some (r.1,r.2))=some (gv f a b):=by
 rw [XX ha M hf];rfl
def Ao{b:ac}(ha:Pl a)(M:Pl b):uC a b=some (gv (fun c=>c==0) a b):=Kr ha M fun _=>rfl
def uk{b:ac}(ha:Pl a)(M:Pl b):qg a b=some (gv (fun c=>decide (c<0)) a b):=Kr ha M fun _=>rfl
def U8(h:pk tag=some k)(hk:k≠0):tag=4\/tag=5\/tag=6\/tag=7\/tag=12\/tag=13\/tag=14\/tag=15\/tag=16\/tag=17\/tag=18\/tag=19\/tag=20\/tag=21\/tag=22\/tag=23:=by
 unfold pk at h
 repeat' split at h
 all_goals simp at h
 ·exact absurd h.symm hk
 all_goals omega
def acH(h:pk tag=some k)(hk:k≠0){b:ac}(ha:Pl a)(M:Pl b):Zx tag a b=some (EU tag a b):=by
 have hbv: ∀x,rN x=some (bV x):=fun x=>by cases x<;>rfl
 rcases U8 h hk with rfl|rfl|rfl|rfl|rfl|rfl|rfl|rfl|rfl|rfl|rfl|rfl|rfl|rfl|rfl|rfl
 ·rw [dz4];unfold oS Bw qE
  simp only [bt]
  have:=IM (tag:=13) (Pl.i 0 ⟨by decide,by decide⟩) ha (tw:=sC) (fun _ _=>rfl)
  have K:yA (iV 0) a=some (z8 13 (iV 0) a):=this
  rw [show(⟨2,0,0,[]⟩:ac)=iV 0 from rfl,K];rfl
 ·rw [dz5];unfold oS EU
  rw [aS (by decide),br rfl]
  by_cases Y:Tu a
  ·rw [Du Y,br ((kC ha).1 Y)];rfl
  ·rw [Jg ha Y,aS (fun h=>Y ((kC ha).2 h))];rfl
 ·rw [dz6];unfold qt
  rw [hbv]
  simp only [bt]
  unfold EU
  rw [aS (by decide),aS (by decide),br rfl]
  cases V:(a.Kind==0)<;>rfl
 ·rw [dz7];unfold qt
  rw [hbv]
  simp only [bt]
  unfold EU
  rw [aS (by decide),aS (by decide),aS (by decide),br rfl]
  simp only [bne]
  cases V:(a.Kind==0)<;>rfl
 ·exact IM (tag:=12) ha M fun _ _=>rfl
 ·exact IM (tag:=13) ha M fun _ _=>rfl
 ·exact IM (tag:=14) ha M fun _ _=>rfl
 ·exact IM (tag:=15) ha M fun _ _=>rfl
 ·exact Ao ha M
 ·exact HW (Ao ha M)
 ·exact uk ha M
 ·exact HW (do1:=nq qg) (by unfold nq;rw [uk M ha];rfl)
 ·rw [agb];unfold nq;rw [uk M ha];rfl
 ·exact HW (uk ha M)
 ·rw [aga]
  show _=some (if a.Kind<=1/\b.Kind<=1 then(IQ a b,0)else(zV,2))
  by_cases Y:Tu a/\Tu b
  ·rw [Lj Y.1 Y.2,br ⟨(kC ha).1 Y.1,(kC M).1 Y.2⟩]
  ·rw [aS (fun h=>Y ⟨(kC ha).2 h.1,(kC M).2 h.2⟩)]
   unfold vK
   rw [H5 ha M Y];rfl
 ·rw [af9]
  show _=some (if a.Kind<=1/\b.Kind<=1 then(WY a b,0)else(zV,2))
  by_cases Y:Tu a/\Tu b
  ·rw [Nq Y.1 Y.2,br ⟨(kC ha).1 Y.1,(kC M).1 Y.2⟩]
  ·rw [aS (fun h=>Y ⟨(kC ha).2 h.1,(kC M).2 h.2⟩)]
   unfold xV
   rw [H5 ha M Y];rfl
def acW{b:ac}(ha:Pl a)(M:Pl b):(z8 tag a b).2=0->Pl (z8 tag a b).1:=by
 unfold z8
 split
 ·split
  ·intro _;exact .z
  ·split
   ·intro _;exact .i _ (aaV tag a.N b.N ha.r64 M.r64).2
   ·intro h;cases h
 ·intro h;cases h
def ZN(tag:Int)(a b:ac):(z8 tag a b).2≠0->z8 tag a b=(zV,140)\/z8 tag a b=(zV,2):=by
 unfold z8
 split
 ·split
  ·intro h;exact absurd rfl h
  ·split
   ·intro h;exact absurd rfl h
   ·intro _;exact .inl rfl
 ·intro _;exact .inr rfl
def Gz(h:Tu a):Tu (Jx a):=by
 unfold Jx
 apply UJ
 have:=UO h;omega
def S4{b:ac}(h:Tu a)(k:Tu b):Tu (IQ a b):=by
 apply UJ
 have:=UO h;have:=UO k;omega
def Vc{b:ac}(h:Tu a)(k:Tu b):Tu (WY a b):=by
 apply UJ
 have:=UO h;have:=UO k;omega
def abx(f:Int->Bool)(a b:ac):(HY (gv f a b)).2=0->Tu (HY (gv f a b)).1:=by
 unfold HY
 split
 ·rename_i h;intro _;exact Gz (uQ f a b h)
 ·rename_i h;intro k;exact absurd k h
def XI(f:Int->Bool)(a b:ac):(HY (gv f a b)).2≠0->HY (gv f a b)=(zV,2):=by
 unfold HY
 split
 ·intro h;exact absurd rfl h
 ·rename_i h;intro _;exact E2 f a b h
def ET(h:pk tag=some k)(hk:k≠0){b:ac}(ha:Pl a)(M:Pl b):
  ((EU tag a b).2=0/\Pl (EU tag a b).1)\/EU tag a b=(zV,2)\/(EU tag a b=(zV,140)/\(tag=4\/(12<=tag/\tag<=15))):=by
 have har: ∀t x y,Pl x->Pl y->((z8 t x y).2=0/\Pl (z8 t x y).1)\/z8 t x y=(zV,2)\/z8 t x y=(zV,140):=by
  intro t x y V hy
  by_cases h0:(z8 t x y).2=0
  ·exact .inl ⟨h0,acW V hy h0⟩
  ·rcases ZN t x y h0 with h|h
   ·exact .inr (.inr h)
   ·exact .inr (.inl h)
 have hh: ∀f x y,((gv f x y).2=0/\Pl (gv f x y).1)\/gv f x y=(zV,2):=by
  intro f x y
  by_cases h0:(gv f x y).2=0
  ·exact .inl ⟨h0,(uQ f x y h0).pl⟩
  ·exact .inr (E2 f x y h0)
 have hn: ∀f x y,((HY (gv f x y)).2=0/\Pl (HY (gv f x y)).1)\/HY (gv f x y)=(zV,2):=by
  intro f x y
  by_cases h0:(HY (gv f x y)).2=0
  ·exact .inl ⟨h0,(abx f x y h0).pl⟩
  ·exact .inr (XI f x y h0)
 rcases U8 h hk with rfl|rfl|rfl|rfl|rfl|rfl|rfl|rfl|rfl|rfl|rfl|rfl|rfl|rfl|rfl|rfl
 ·rcases har 13 (iV 0) a (.i 0 ⟨by decide,by decide⟩) ha with h|h|h
  ·exact .inl h
  ·exact .inr (.inl h)
  ·exact .inr (.inr ⟨h,.inl rfl⟩)
 ·show _\/_\/_
  unfold EU
  rw [aS (by decide),br rfl]
  split
  ·rename_i hk;exact .inl ⟨rfl,(Gz ((kC ha).2 hk)).pl⟩
  ·exact .inr (.inl rfl)
 ·exact .inl ⟨rfl,.b _⟩
 ·exact .inl ⟨rfl,.b _⟩
 ·rcases har 12 a b ha M with h|h|h
  ·exact .inl h
  ·exact .inr (.inl h)
  ·exact .inr (.inr ⟨h,by decide⟩)
 ·rcases har 13 a b ha M with h|h|h
  ·exact .inl h
  ·exact .inr (.inl h)
  ·exact .inr (.inr ⟨h,by decide⟩)
 ·rcases har 14 a b ha M with h|h|h
  ·exact .inl h
  ·exact .inr (.inl h)
  ·exact .inr (.inr ⟨h,by decide⟩)
 ·rcases har 15 a b ha M with h|h|h
  ·exact .inl h
  ·exact .inr (.inl h)
  ·exact .inr (.inr ⟨h,by decide⟩)
 ·exact(hh (fun c=>c==0) a b).imp_right .inl
 ·exact(hn (fun c=>c==0) a b).imp_right .inl
 ·exact(hh (fun c=>decide (c<0)) a b).imp_right .inl
 ·exact(hn (fun c=>decide (c<0)) b a).imp_right .inl
 ·exact(hh (fun c=>decide (c<0)) b a).imp_right .inl
 ·exact(hn (fun c=>decide (c<0)) a b).imp_right .inl
 ·show _\/_\/_
  rw [show EU 22 a b=if a.Kind<=1/\b.Kind<=1 then(IQ a b,0)else(zV,2)from rfl]
  split
  ·rename_i h;exact .inl ⟨rfl,(S4 ((kC ha).2 h.1) ((kC M).2 h.2)).pl⟩
  ·exact .inr (.inl rfl)
 ·show _\/_\/_
  rw [show EU 23 a b=if a.Kind<=1/\b.Kind<=1 then(WY a b,0)else(zV,2)from rfl]
  split
  ·rename_i h;exact .inl ⟨rfl,(Vc ((kC ha).2 h.1) ((kC M).2 h.2)).pl⟩
  ·exact .inr (.inl rfl)

def dz(tag:Int)(a b:ac):ac×Int:=if(EU tag a b).2=0 then EU tag a b else(zV,if(EU tag a b).2=140 then 140 else 201)
def F7(q:ac×Int)(f:ac->ac×Int):ac×Int:=if q.2=0 then f q.1 else q
def ev(r:List ac):Tr->ac×Int
 | .lf n=>if n.Tag=1 then(n.Value,0)else((r[n.Col.toNat]?).getD zV,0)
 | .un n a=>F7 (ev r a) fun x=>dz n.Tag x x
 | .bi n a b=>F7 (ev r a) fun x=>F7 (ev r b) fun y=>dz n.Tag x y
def WX:Tr->Prop
 | .lf n=>r64 n.Value.N
 | .un _ a=>WX a
 | .bi _ a b=>WX a/\WX b
def A2(r:List ac):Tr->Prop
 | .lf n=>n.Tag=2->n.Col.toNat<r.length/\ ∃v,r[n.Col.toNat]? =some v/\Pl v
 | .un _ a=>A2 r a
 | .bi _ a b=>A2 r a/\A2 r b
def yr(h:pk tag=some k)(hk:k≠0){b:ac}(ha:Pl a)(M:Pl b):
  ((dz tag a b).2=0/\Pl (dz tag a b).1/\dz tag a b=EU tag a b)\/(dz tag a b=(zV,201)/\EU tag a b=(zV,2))\/(dz tag a b=(zV,140)/\EU tag a b=(zV,140)/\(tag=4\/(12<=tag/\tag<=15))):=by
 unfold dz
 rcases ET h hk ha M with⟨I,K⟩|I|⟨I,K⟩
 ·rw [br I];exact .inl ⟨I,K,rfl⟩
 ·rw [I];exact .inr (.inl ⟨rfl,rfl⟩)
 ·rw [I];exact .inr (.inr ⟨rfl,rfl,K⟩)
def SG(r:List ac)(n:bZ)(a:Tr):ev r (.un n a)=F7 (ev r a) fun x=>dz n.Tag x x:=rfl
def SI(r:List ac)(n:bZ)(a b:Tr):ev r (.bi n a b)=F7 (ev r a) fun x=>F7 (ev r b) fun y=>dz n.Tag x y:=rfl
def pp{q:ac×Int}{f:ac->ac×Int}(h:q.2=0):F7 q f=f q.1:=br h
def kN{q:ac×Int}{f:ac->ac×Int}(h:q.2≠0):F7 q f=q:=aS h
def pn(r:List ac)(t:Tr):t.wf->WX t->A2 r t->((ev r t).2=0/\Pl (ev r t).1)\/ev r t=(zV,201)\/ev r t=(zV,140):=by
 induction t with
 |lf n=>
  intro⟨I,K,_,_⟩ hr hc
  unfold ev
  split
  ·rename_i Y;exact .inl ⟨rfl,HM (ad6 K Y) hr⟩
  ·rename_i Y
   have ht2:n.Tag=2:=(pk0 I).resolve_left Y
   obtain⟨_,v,hv,hp⟩:=hc ht2
   rw [hv];exact .inl ⟨rfl,hp⟩
 |un n a ih=>
  intro⟨⟨I,_,_,_⟩,ha⟩ hr hc
  rw [SG]
  rcases ih ha hr hc with⟨K,h3⟩|K|K
  ·rw [pp K]
   rcases yr I (by decide) h3 h3 with⟨h4,h5,_⟩|⟨h4,_⟩|⟨h4,_⟩
   ·exact .inl ⟨h4,h5⟩
   ·exact .inr (.inl h4)
   ·exact .inr (.inr h4)
  ·rw [K,kN (by decide)];exact .inr (.inl rfl)
  ·rw [K,kN (by decide)];exact .inr (.inr rfl)
 |bi n a b iha ihb=>
  intro⟨⟨I,_,_,_⟩,ha,M⟩ ⟨hra,hrb⟩ ⟨hca,hcb⟩
  rw [SI]
  rcases iha ha hra hca with⟨K,h3⟩|K|K
  ·rw [pp K]
   rcases ihb M hrb hcb with⟨k2,k3⟩|k2|k2
   ·rw [pp k2]
    rcases yr I (by decide) h3 k3 with⟨h4,h5,_⟩|⟨h4,_⟩|⟨h4,_⟩
    ·exact .inl ⟨h4,h5⟩
    ·exact .inr (.inl h4)
    ·exact .inr (.inr h4)
   ·rw [k2,kN (by decide)];exact .inr (.inl rfl)
   ·rw [k2,kN (by decide)];exact .inr (.inr rfl)
  ·rw [K,kN (by decide)];exact .inr (.inl rfl)
  ·rw [K,kN (by decide)];exact .inr (.inr rfl)
def LK(stack l:List ac)(h:stack.length+l.length<=100000):mH (stack++l) (l.length:Int)=some (l,stack):=by
 unfold mH ij
 have e:IntKind.i64.wrap (((stack++l).length:Int)-(l.length:Int))=(stack.length:Int):=by
  rw [ju,dm (by omega) (by omega)];omega
 rw [e,nM stack.length (stack++l).length rfl rfl (by simp) (fa _)]
 simp only [bt,Dg,JP (fa _),List.drop_length,lU]
 rw [cA (by simp;omega)]
 simp only [bt,lU]
 rw [nM (i:=0) 0 stack.length rfl rfl (lG _) (by simp)]
 simp
def Bk(stack:List ac){b:Int}(h:b≠0):iP b stack=some (zV,b):=by
 unfold iP;rw [br (by simpa using h)];rfl
def KX(r:List ac)(n:bZ)(h:pk n.Tag=some k)(hk:k≠0){b:ac}(ha:Pl a)(M:Pl b){l:List ac}(h0:di l 0=some a)(I:di l (IntKind.i64.wrap ((l.length:Int)-1))=some b):
  ki r Ed n l=some ((EU n.Tag a b).1,(dz n.Tag a b).2):=by
 have hn:=U8 h hk
 unfold ki
 rw [aS (by simp;omega),aS (by simp;omega),h0]
 simp only [bt]
 rw [I]
 simp only [bt]
 have:=acH h hk ha M
 unfold Zx at this
 rw [this]
 simp only [bt]
 unfold te
 rcases yr h hk ha M with⟨K,_,h4⟩|⟨K,h4⟩|⟨K,h4,_⟩
 ·rw [h4]at K;rw [h4,K];rfl
 ·rw [K,h4];rfl
 ·rw [K,h4];rfl
def Qn(r:List ac)(t:Tr):t.wf->WX t->A2 r t-> ∀(s:Nat) (rest:List bZ) (stack:List ac),stack.length+t.size<=50000->
  fd (ki r Ed) (t.flat s++rest) 0 stack=if(ev r t).2=0 then fd (ki r Ed) rest 0 (stack++[(ev r t).1])else some (zV,(ev r t).2):=by
 induction t with
 |lf n=>
  intro⟨I,K,h3,h4⟩ hr hc s rest stack hl
  simp only [Tr.flat,Tr.size,Ac,lU]at hl ⊢
  rw [fd]
  have e1:(jz n (-1) (-1)).Tag=n.Tag:=rfl
  rw [e1,pM I]
  have h0:=LK stack [] (by simp;omega)
  simp only [tA,oo]at h0
  simp only [bt]
  rw [h0]
  simp only [bt]
  have hv:ki r Ed (jz n (-1) (-1)) []=some (ev r (.lf n)):=by
   unfold ki ev
   simp only [e1]
   rcases pk0 I with Y|Y
   ·rw [br (by simp [Y]),br Y];rfl
   ·rw [aS (by simp [Y]),br (by simp [Y]),aS (by simp [Y])]
    have M:=QU K Y
    obtain⟨hm,v,hv,_⟩:=hc Y
    have e2:(jz n (-1) (-1)).Col=n.Col:=rfl
    rw [e2,iX n.Col.toNat (by omega),hv]
    rfl
  have e0:(ev r (.lf n)).2=0:=by unfold ev;split<;>rfl
  rw [hv,br e0]
  simp only [bt,e0]
  rw [aS (by simp),cA (by simp;omega)]
  rfl
 |un n a ih=>
  intro⟨⟨I,K,h3,h4⟩,ha⟩ hr hc s rest stack hl
  simp only [Tr.flat,Tr.size,ji]at hl ⊢
  rw [SG,ih ha hr hc s _ stack (by omega)]
  by_cases V:(ev r a).2=0
  ·have hp:Pl (ev r a).1:=by
    rcases pn r a ha hr hc with⟨_,h⟩|h|h
    ·exact h
    ·rw [h]at V;cases V
    ·rw [h]at V;cases V
   rw [br V,pp V]
   generalize (ev r a).1=x at hp
   simp only [Ac,lU]
   rw [fd]
   have e1:(jz n (((s+a.size:Nat):Int)-1) (-1)).Tag=n.Tag:=rfl
   rw [e1,pM I]
   have h0:=LK stack [x] (by simp;omega)
   simp only [bt]
   have e0:(([x]:List ac).length:Int)=((1:Nat):Int):=rfl
   rw [<-e0,h0]
   simp only [bt]
   rw [KX r (jz n (((s+a.size:Nat):Int)-1) (-1)) (k:=1) I (by decide) hp hp rfl rfl]
   simp only [bt,e1]
   rcases yr I (by decide) hp hp with⟨h5,_,h6⟩|⟨h5,_⟩|⟨h5,_⟩
   ·rw [aS (by simp [h5]),br h5,cA (by simp;omega),h6];rfl
   ·rw [h5,br (by decide),Bk _ (by decide),aS (by decide)]
   ·rw [h5,br (by decide),Bk _ (by decide),aS (by decide)]
  ·rw [aS V,kN V,aS V]
 |bi n a b iha ihb=>
  intro⟨⟨I,K,h3,h4⟩,ha,M⟩ ⟨hra,hrb⟩ ⟨hca,hcb⟩ s rest stack hl
  simp only [Tr.flat,Tr.size,ji]at hl ⊢
  rw [SI,iha ha hra hca s _ stack (by omega)]
  by_cases V:(ev r a).2=0
  ·have hp:Pl (ev r a).1:=by
    rcases pn r a ha hra hca with⟨_,h⟩|h|h
    ·exact h
    ·rw [h]at V;cases V
    ·rw [h]at V;cases V
   rw [br V,pp V]
   generalize (ev r a).1=x at hp
   rw [ihb M hrb hcb (s+a.size) _ (stack++[x]) (by have:=a.size_pos;simp;omega)]
   by_cases hy:(ev r b).2=0
   ·have hq:Pl (ev r b).1:=by
     rcases pn r b M hrb hcb with⟨_,h⟩|h|h
     ·exact h
     ·rw [h]at hy;cases hy
     ·rw [h]at hy;cases hy
    rw [br hy,pp hy]
    generalize (ev r b).1=y at hq
    have hap:=a.size_pos
    simp only [Ac,lU]
    rw [fd]
    have e1:(jz n (((s+a.size:Nat):Int)-1) (((s+a.size+b.size:Nat):Int)-1)).Tag=n.Tag:=rfl
    rw [e1,pM I]
    have h0:=LK stack [x,y] (by simp;omega)
    simp only [bt]
    have e0:(([x,y]:List ac).length:Int)=((2:Nat):Int):=rfl
    have e9:stack++[x]++[y]=stack++[x,y]:=by simp
    rw [<-e0,e9,h0]
    simp only [bt]
    rw [KX r (jz n (((s+a.size:Nat):Int)-1) (((s+a.size+b.size:Nat):Int)-1)) (k:=2) I (by decide) hp hq rfl rfl]
    simp only [bt,e1]
    rcases yr I (by decide) hp hq with⟨h5,_,h6⟩|⟨h5,_⟩|⟨h5,_⟩
    ·rw [aS (by simp [h5]),br h5,cA (by simp;omega),h6];rfl
    ·rw [h5,br (by decide),Bk _ (by decide),aS (by decide)]
    ·rw [h5,br (by decide),Bk _ (by decide),aS (by decide)]
   ·rw [aS hy,kN hy,aS hy]
  ·rw [aS V,kN V,aS V]
def BV(r:List ac)(c:Int):Bool:=decide (c<(r.length:Int))&&oJ ((r[c.toNat]?).getD zV)
def wF(r:List ac)(ns:List bZ):Bool:=ns.all fun n=> !(n.Tag==2)||BV r n.Col
def NT(ns:List bZ):Prop:= ∀n∈ns,r64 n.Value.N
def Xv(r:List ac):Prop:= ∀v∈r,r64 v.N
def Ub(hr:Xv r){c:Int}(h0:0<=c)(h:BV r c=true):c.toNat<r.length/\ ∃v,r[c.toNat]? =some v/\Pl v:=by
 unfold BV at h
 rw [gN,j9]at h
 have hlt:c.toNat<r.length:=by omega
 refine⟨hlt,r[c.toNat],p5 hlt,?_⟩
 have K:=h.2
 rw [p5 hlt]at K
 exact HM K (hr _ (Dk hlt))
def zw(hr:Xv r)(t:Tr):t.wf-> ∀s,wF r (t.flat s)=true->A2 r t:=by
 induction t with
 |lf n=>
  intro⟨_,K,_,_⟩ s h Y
  simp only [wF,Tr.flat,BE,List.all_nil,B2]at h
  have e1:(jz n (-1) (-1)).Tag=n.Tag:=rfl
  have e2:(jz n (-1) (-1)).Col=n.Col:=rfl
  rw [e1,e2,Y]at h
  exact Ub hr (QU K Y).1 (by simpa using h)
 |un n a ih=>
  intro⟨_,ha⟩ s h
  simp only [wF,Tr.flat,List.all_append,gN]at h
  exact ih ha s h.1
 |bi n a b iha ihb=>
  intro⟨_,ha,M⟩ s h
  simp only [wF,Tr.flat,List.all_append,gN]at h
  exact⟨iha ha s h.1.1,ihb M _ h.1.2⟩
def DD(t:Tr): ∀s,NT (t.flat s)->WX t:=by
 induction t with
 |lf n=>intro s h;exact h (jz n (-1) (-1)) (by simp [Tr.flat])
 |un n a ih=>intro s h;exact ih s fun m hm=>h m (by simp [Tr.flat,hm])
 |bi n a b iha ihb=>intro s h;exact⟨iha s fun m hm=>h m (by simp [Tr.flat,hm]),ihb _ fun m hm=>h m (by simp only [Tr.flat,BG];exact .inl (.inr hm))⟩
def G8{t:Tr}(hw:t.wf): ∀s {n:bZ},n∈t.flat s->n.Tag=2->0<=n.Col/\n.Col<16:=by
 induction t with
 |lf m=>
  intro s n hn Y
  simp only [Tr.flat,EE]at hn
  subst hn
  exact QU hw.2.1 Y
 |un m a ih=>
  intro s n hn Y
  simp only [Tr.flat,BG,EE]at hn
  rcases hn with hn|rfl
  ·exact ih hw.2 s hn Y
  ·exact absurd (pk2 hw.1.1 Y) (by decide)
 |bi m a b iha ihb=>
  intro s n hn Y
  simp only [Tr.flat,BG,EE]at hn
  rcases hn with(hn|hn)|rfl
  ·exact iha hw.2.1 s hn Y
  ·exact ihb hw.2.2 _ hn Y
  ·exact absurd (pk2 hw.1.1 Y) (by decide)
def qY(r:List ac)(ns:List bZ):ac×Int:=match oB ns with
 |none=>(zV,200)
 |some t=>if wF r ns then ev r t else(zV,2)
def I5(e:cy)(r:List ac)(x:ac): ∀cs:List Int,(∀c∈cs,0<=c)->qN e r cs x=if cs.all (BV r)then j5 e (ki r Ed)else some (zV,2)
 |[],_=>by
  unfold qN
  rw [MG]
  simp only [bt]
  cases j5 e (ki r Ed)<;>rfl
 |c::cs,hc=>by
  unfold qN
  rw [I5 e r x cs fun c hm=>hc c (lT _ hm)]
  have h0:=hc c (mp ..)
  by_cases h:(r.length:Int)<=c
  ·have M:BV r c=false:=by unfold BV;rw [Bool.and_eq_false_iff];left;simp;omega
   simp [h,M,zV]
  ·have hlt:c.toNat<r.length:=by omega
   have e1:di r c=some r[c.toNat]:=by rw [iX c.toNat (by omega),p5 hlt]
   have M:BV r c=oJ r[c.toNat]:=by
    unfold BV
    rw [p5 hlt]
    have:decide (c<(r.length:Int))=true:=by simp;omega
    rw [this];rfl
   rw [br (by simpa using h),e1]
   simp only [bt,wb]
   rw [BE,M]
   cases oJ r[c.toNat]<;>simp [zV]
def N7(r:List ac){t:Tr}(hw:t.wf)(hr:WX t)(hc:A2 r t)(hs:t.size<=1000):j5 ⟨t.flat 0⟩ (ki r Ed)=some (ev r t):=by
 unfold j5
 have h:=Qn r t hw hr hc 0 [] [] (by simp;omega)
 rw [tA]at h
 rw [h]
 rcases pn r t hw hr hc with⟨K,h3⟩|K|K
 ·rw [br K]
  unfold fd iP
  rw [aS (by simp)]
  simp only [lU]
  rw [show di [(ev r t).1] 0=some (ev r t).1 from rfl]
  simp only [bt]
  congr 1
  exact Prod.ext rfl K.symm
 ·rw [K,aS (by decide)]
 ·rw [K,aS (by decide)]
def zr(e:cy)(r:List ac)(hl:e.Nodes.length<=50000)(he:NT e.Nodes)(hr:Xv r):vV e r=some (qY r e.Nodes):=by
 unfold vV qY
 rw [xI e (by omega)]
 cases Y:oB e.Nodes with
 |none=>
  have:lW e.Nodes=false:=by unfold lW;rw [Y];rfl
  rw [this];rfl
 |some t=>
  have hri:lW e.Nodes=true:=by unfold lW;rw [Y];rfl
  obtain⟨hw,hN,hs⟩:=ma Y
  rw [hri]
  simp only [gx,bt]
  rw [aS (by decide)]
  obtain⟨cs,I,K⟩:=D6 e hri
  rw [I]
  simp only [bt]
  have hcnt: ∀n∈e.Nodes,n.Tag=2->0<=n.Col:=fun n hn htag=>by
   rw [hN]at hn
   exact(G8 hw 0 hn htag).1
  rw [I5 e r _ cs fun c hc=>by obtain⟨n,hn,htag,rfl⟩:=(K c).1 hc;exact hcnt n hn htag]
  have hcols:cs.all (BV r)=wF r e.Nodes:=by
   rw [De,p7]
   unfold wF
   rw [p7]
   constructor
   ·intro h n hn
    by_cases htag:n.Tag=2
    ·rw [h n.Col ((K _).2 ⟨n,hn,htag,rfl⟩)];simp
    ·simp [htag]
   ·intro h c hc
    obtain⟨n,hn,htag,rfl⟩:=(K c).1 hc
    have:=h n hn
    simpa [htag] using this
  rw [hcols]
  cases M:wF r e.Nodes with
  |false=>rfl
  |true=>
   simp only [gx]
   have e9:e=⟨t.flat 0⟩:=by cases e;simp only at hN;rw [hN]
   rw [hN]at he M
   rw [e9]
   exact N7 r hw (DD t 0 he) (zw hr t hw 0 M) hs


variable{ka kb:Int}
def Ox(Y:tag=4\/tag=12\/tag=13\/tag=14\/tag=15):kn tag ka kb=(2,(ka==2||ka==0)&&(kb==2||kb==0)):=by
 rcases Y with rfl|rfl|rfl|rfl|rfl<;>(unfold kn jR jl;cases (ka==2||ka==0)<;>cases (kb==2||kb==0)<;>rfl)
def Vt(Y:tag=5\/tag=22\/tag=23):kn tag ka kb=(1,(ka==1||ka==0)&&(kb==1||kb==0)):=by
 rcases Y with rfl|rfl|rfl<;>(unfold kn jR jl;cases (ka==1||ka==0)<;>cases (kb==1||kb==0)<;>rfl)
def t7(v:ac)(k:Int):Prop:=v.Kind=k\/v.Kind=0
def NZ(h:pk tag=some k)(hk:k≠0){b:ac}(ha:Pl a)(M:Pl b)(I:t7 a ka)(K:k=1/\b=a/\kb=0\/k=2/\t7 b kb)(hn:(kn tag ka kb).2=true):
  ((EU tag a b).2=0/\t7 (EU tag a b).1 (kn tag ka kb).1)\/EU tag a b=(zV,140):=by
 have har: ∀t x y,t7 x 2->t7 y 2->((z8 t x y).2=0/\t7 (z8 t x y).1 2)\/z8 t x y=(zV,140):=by
  intro t x y V hy
  unfold z8
  rw [br ⟨V.symm,hy.symm⟩]
  split
  ·exact .inl ⟨rfl,.inr rfl⟩
  ·split
   ·exact .inl ⟨rfl,.inl rfl⟩
   ·exact .inr rfl
 have hbv: ∀x,(bV x).Kind=1:=fun _=>rfl
 have htv: ∀{v},Tu v->t7 v 1:=fun h=>by cases h;exact .inr rfl;exact .inl rfl
 have hh: ∀f,(a.Kind=b.Kind\/a.Kind=0\/b.Kind=0)->(gv f a b).2=0/\(gv f b a).2=0:=by
  intro f V
  unfold gv
  constructor
  ·split
   ·rfl
   ·rw [br (by rename_i h9;simp only [not_or]at h9;rcases V with h|h|h;exact h;exact absurd h h9.1;exact absurd h h9.2)]
  ·split
   ·rfl
   ·rw [br (by rename_i h9;simp only [not_or]at h9;rcases V with h|h|h;exact h.symm;exact absurd h h9.2;exact absurd h h9.1)]
 have hkk:k=2->(ka=kb\/ka=0\/kb=0)->(a.Kind=b.Kind\/a.Kind=0\/b.Kind=0):=by
  intro h9 h
  rcases K with⟨h5,_⟩|⟨_,K⟩
  ·omega
  unfold t7 at I K
  rcases h with h|h|h<;>rcases I with I|I<;>rcases K with K|K<;>simp_all
 have hno: ∀f x y,(gv f x y).2=0->(HY (gv f x y)).2=0/\t7 (HY (gv f x y)).1 1:=by
  intro f x y h9
  unfold HY
  rw [br h9]
  exact⟨rfl,htv (Gz (uQ f x y h9))⟩
 have h3:k=2->t7 b kb:=by intro h9;rcases K with⟨h5,_⟩|⟨_,K⟩;omega;exact K
 have h10: ∀{x:ac} {kx:Int},t7 x kx->kx=2\/kx=0->t7 x 2:=by
  intro x kx h h';unfold t7 at*;omega
 have h11: ∀{x:ac} {kx:Int},t7 x kx->kx=1\/kx=0->x.Kind<=1:=by
  intro x kx h h';unfold t7 at*;omega
 rcases U8 h hk with rfl|rfl|rfl|rfl|rfl|rfl|rfl|rfl|rfl|rfl|rfl|rfl|rfl|rfl|rfl|rfl
 ·rw [Ox (by decide)]at hn ⊢
  have V:ka=2\/ka=0:=by simp at hn;exact hn.1
  have:=har 13 (iV 0) a (.inl rfl) (h10 I V)
  exact this
 ·rw [Vt (by decide)]at hn ⊢
  have V:ka=1\/ka=0:=by simp at hn;exact hn.1
  have e:EU 5 a b=(Jx a,0):=by
   show(if a.Kind<=1 then(Jx a,0)else(zV,2))=_
   rw [br (h11 I V)]
  rw [e];exact .inl ⟨rfl,htv (Gz ((kC ha).2 (h11 I V)))⟩
 ·exact .inl ⟨rfl,.inl rfl⟩
 ·exact .inl ⟨rfl,.inl rfl⟩
 all_goals have hk2:k=2:=by simp [pk]at h;omega
 all_goals have hb3:=h3 hk2
 ·rw [Ox (by decide)]at hn ⊢
  have V:(ka=2\/ka=0)/\(kb=2\/kb=0):=by simp at hn;exact hn
  exact har 12 a b (h10 I V.1) (h10 hb3 V.2)
 ·rw [Ox (by decide)]at hn ⊢
  have V:(ka=2\/ka=0)/\(kb=2\/kb=0):=by simp at hn;exact hn
  exact har 13 a b (h10 I V.1) (h10 hb3 V.2)
 ·rw [Ox (by decide)]at hn ⊢
  have V:(ka=2\/ka=0)/\(kb=2\/kb=0):=by simp at hn;exact hn
  exact har 14 a b (h10 I V.1) (h10 hb3 V.2)
 ·rw [Ox (by decide)]at hn ⊢
  have V:(ka=2\/ka=0)/\(kb=2\/kb=0):=by simp at hn;exact hn
  exact har 15 a b (h10 I V.1) (h10 hb3 V.2)
 ·have V:ka=kb\/ka=0\/kb=0:=by simp [kn,jR,jl]at hn;omega
  have:=(hh (fun c=>c==0) (hkk hk2 V)).1
  exact .inl ⟨this,htv (uQ _ a b this)⟩
 ·have V:ka=kb\/ka=0\/kb=0:=by simp [kn,jR,jl]at hn;omega
  exact .inl (hno (fun c=>c==0) a b (hh _ (hkk hk2 V)).1)
 ·have V:ka=kb\/ka=0\/kb=0:=by simp [kn,jR,jl]at hn;omega
  have:=(hh (fun c=>decide (c<0)) (hkk hk2 V)).1
  exact .inl ⟨this,htv (uQ _ a b this)⟩
 ·have V:ka=kb\/ka=0\/kb=0:=by simp [kn,jR,jl]at hn;omega
  exact .inl (hno (fun c=>decide (c<0)) b a (hh _ (hkk hk2 V)).2)
 ·have V:ka=kb\/ka=0\/kb=0:=by simp [kn,jR,jl]at hn;omega
  have:=(hh (fun c=>decide (c<0)) (hkk hk2 V)).2
  exact .inl ⟨this,htv (uQ _ b a this)⟩
 ·have V:ka=kb\/ka=0\/kb=0:=by simp [kn,jR,jl]at hn;omega
  exact .inl (hno (fun c=>decide (c<0)) a b (hh _ (hkk hk2 V)).1)
 ·rw [Vt (by decide)]at hn ⊢
  have V:(ka=1\/ka=0)/\(kb=1\/kb=0):=by simp at hn;exact hn
  have e:EU 22 a b=(IQ a b,0):=by
   show(if a.Kind<=1/\b.Kind<=1 then(IQ a b,0)else(zV,2))=_
   rw [br ⟨h11 I V.1,h11 hb3 V.2⟩]
  rw [e];exact .inl ⟨rfl,htv (S4 ((kC ha).2 (h11 I V.1)) ((kC M).2 (h11 hb3 V.2)))⟩
 ·rw [Vt (by decide)]at hn ⊢
  have V:(ka=1\/ka=0)/\(kb=1\/kb=0):=by simp at hn;exact hn
  have e:EU 23 a b=(WY a b,0):=by
   show(if a.Kind<=1/\b.Kind<=1 then(WY a b,0)else(zV,2))=_
   rw [br ⟨h11 I V.1,h11 hb3 V.2⟩]
  rw [e];exact .inl ⟨rfl,htv (Vc ((kC ha).2 (h11 I V.1)) ((kC M).2 (h11 hb3 V.2)))⟩
def kindR(kinds:List Int)(r:List ac):Prop:= ∀(j:Nat) (k:Int),kinds[j]? =some k-> ∃v,r[j]? =some v/\Pl v/\t7 v k
def adz(hk4: ∀k∈kinds,k4 k)(hr:kindR kinds r)(t:Tr):t.wf->WX t->A2 r t->F3 kinds.length t-> ∀{k},kd kinds t=some k->
  ((ev r t).2=0/\t7 (ev r t).1 k)\/(ev r t=(zV,140)/\ ∀s,(t.flat s).any arB=true):=by
 induction t with
 |lf n=>
  intro⟨I,K,_,_⟩ H hc hcT k hk
  unfold kd at hk
  unfold ev
  split at hk
  ·rename_i Y;rw [br Y];cases hk;exact .inl ⟨rfl,.inl rfl⟩
  ·rename_i Y
   have ht2:n.Tag=2:=(pk0 I).resolve_left Y
   have hlt:=hcT ht2
   have h0:=(QU K ht2).1
   rw [aS Y]
   have hgk:kinds[n.Col.toNat]? =some k:=by
    rw [p5 (by omega)]at hk ⊢
    simpa using hk
   obtain⟨v,h3,h4,h5⟩:=hr _ _ hgk
   rw [h3];exact .inl ⟨rfl,h5⟩
 |un n a ih=>
  intro⟨⟨I,_,_,_⟩,ha⟩ H hc hcT k hk
  rw [RQ]at hk
  cases V:kd kinds a with
  |none=>rw [V]at hk;cases hk
  |some x=>
   rw [V,bt]at hk
   split at hk
   ·rename_i hkn
    cases hk
    rw [SG]
    rcases ih ha H hc hcT V with⟨K,h3⟩|⟨K,h3⟩
    ·rw [pp K]
     have hp:Pl (ev r a).1:=by
      rcases pn r a ha H hc with⟨_,h⟩|h|h
      ·exact h
      ·rw [h]at K;cases K
      ·rw [h]at K;cases K
     unfold dz
     rcases NZ I (by decide) hp hp h3 (.inl ⟨rfl,rfl,rfl⟩) hkn with⟨h4,h5⟩|h4
     ·rw [br h4];exact .inl ⟨h4,h5⟩
     ·rcases ET I (by decide) hp hp with⟨h6,_⟩|h6|⟨_,h6⟩
      ·rw [h4]at h6;cases h6
      ·rw [h4]at h6;cases h6
      ·rw [h4]
       exact .inr ⟨rfl,fun s=>by simp only [Tr.flat,JF,wU,List.any_nil,Bool.or_false,tB];right;simp only [arB];have:(jz n (((s+a.size:Nat):Int)-1) (-1)).Tag=n.Tag:=rfl;rw [this];simp;omega⟩
    ·rw [K,kN (by decide)]
     exact .inr ⟨rfl,fun s=>by simp only [Tr.flat,JF,tB];exact .inl (h3 s)⟩
   ·cases hk
 |bi n a b iha ihb=>
  intro⟨⟨I,_,_,_⟩,ha,M⟩ ⟨hga,hgb⟩ ⟨hca,hcb⟩ ⟨hTa,hTb⟩ k hk
  rw [OG]at hk
  cases V:kd kinds a with
  |none=>rw [V]at hk;cases hk
  |some x=>
   cases hy:kd kinds b with
   |none=>rw [V,hy]at hk;cases hk
   |some y=>
    rw [V,hy]at hk
    simp only [bt]at hk
    split at hk
    ·rename_i hkn
     cases hk
     rw [SI]
     rcases iha ha hga hca hTa V with⟨K,h3⟩|⟨K,h3⟩
     ·rw [pp K]
      have hp:Pl (ev r a).1:=by
       rcases pn r a ha hga hca with⟨_,h⟩|h|h
       ·exact h
       ·rw [h]at K;cases K
       ·rw [h]at K;cases K
      rcases ihb M hgb hcb hTb hy with⟨q2,q3⟩|⟨q2,q3⟩
      ·rw [pp q2]
       have hq:Pl (ev r b).1:=by
        rcases pn r b M hgb hcb with⟨_,h⟩|h|h
        ·exact h
        ·rw [h]at q2;cases q2
        ·rw [h]at q2;cases q2
       unfold dz
       rcases NZ I (by decide) hp hq h3 (.inr ⟨rfl,q3⟩) hkn with⟨h4,h5⟩|h4
       ·rw [br h4];exact .inl ⟨h4,h5⟩
       ·rcases ET I (by decide) hp hq with⟨h6,_⟩|h6|⟨_,h6⟩
        ·rw [h4]at h6;cases h6
        ·rw [h4]at h6;cases h6
        ·rw [h4]
         exact .inr ⟨rfl,fun s=>by simp only [Tr.flat,JF,wU,List.any_nil,Bool.or_false,tB];right;simp only [arB];have:(jz n (((s+a.size:Nat):Int)-1) (((s+a.size+b.size:Nat):Int)-1)).Tag=n.Tag:=rfl;rw [this];simp;omega⟩
      ·rw [q2,kN (by decide)]
       exact .inr ⟨rfl,fun s=>by simp only [Tr.flat,JF,tB];exact .inl (.inr (q3 _))⟩
     ·rw [K,kN (by decide)]
      exact .inr ⟨rfl,fun s=>by simp only [Tr.flat,JF,tB];exact .inl (.inl (h3 s))⟩
    ·cases hk
def Vu{e:cy}(h:(gh e kinds).2=0): ∃t,oB e.Nodes=some t/\(∀k∈kinds,k4 k)/\ue kinds.length e.Nodes=true/\kd kinds t=some (gh e kinds).1:=by
 unfold gh at h ⊢
 split at h
 ·rename_i I
  rw [br I]
  split at h
  ·rename_i K
   rw [br K]
   split at h
   ·rename_i h3
    rw [br h3]
    unfold lW at I
    cases Y:oB e.Nodes with
    |none=>rw [Y]at I;cases I
    |some t=>
     rw [Y]at h
     simp only [bt]at h ⊢
     cases hk:kd kinds t with
     |none=>rw [hk]at h;cases h
     |some k=>exact⟨t,rfl,fun k hk=>Bo K hk,h3,hk⟩
   ·cases h
  ·cases h
 ·cases h
def TQ(ns:List bZ)(hl:ns.length<=200)(H:NT ns)(kinds:List Int)(h:(gh ⟨ns⟩ kinds).2=0)(own:List ac)(hr:kindR kinds own)(hrg:Xv own)(hlen:own.length=kinds.length):
  ((qY own ns).2=0/\Pl (qY own ns).1/\t7 (qY own ns).1 (gh ⟨ns⟩ kinds).1)\/((qY own ns).2=140/\ns.any arB=true):=by
 obtain⟨t,Y,hk4,hcols,hkd⟩:=Vu h
 obtain⟨hw,hN,hs⟩:=ma Y
 have hN:ns=t.flat 0:=hN
 have hcT:F3 kinds.length t:=A3 _ t hw 0 (by rw [<-hN];exact hcols)
 have hcB:wF own ns=true:=by
  unfold wF
  rw [p7]
  intro n hn
  by_cases htag:n.Tag=2
  ·have hc:=p7.1 hcols n hn
   have h0:=(G8 hw 0 (by rw [<-hN];exact hn) htag).1
   simp [htag]at hc ⊢
   have hlt:n.Col.toNat<kinds.length:=by omega
   obtain⟨v,hv,hp,_⟩:=hr n.Col.toNat kinds[n.Col.toNat] (p5 hlt)
   unfold BV
   rw [hv]
   have e1:decide (n.Col<(own.length:Int))=true:=by simp;omega
   rw [e1];simpa using hp.plain
  ·simp [htag]
 have hcV:A2 own t:=zw hrg t hw 0 (by rw [<-hN];exact hcB)
 have hgT:=DD t 0 (by rw [<-hN];exact H)
 have hev:qY own ns=ev own t:=by unfold qY;rw [Y];simp [hcB]
 rw [hev]
 rcases adz hk4 hr t hw hgT hcV hcT hkd with⟨K,h3⟩|⟨K,h3⟩
 ·left
  refine⟨K,?_,h3⟩
  rcases pn own t hw hgT hcV with⟨_,h⟩|h|h
  ·exact h
  ·rw [h]at K;cases K
  ·rw [h]at K;cases K
 ·right
  rw [K]
  exact⟨rfl,by rw [hN];exact h3 0⟩

def sh(s:Nat)(x:Int):Int:=if 0<=x then x+(s:Int)else x
def cb(r:List ac):Tr->Bool
 | .lf n=> !(n.Tag==2)||BV r n.Col
 | .un _ a=>cb r a
 | .bi _ a b=>cb r a&&cb r b

def us(s:Nat)(x:Int):Int:=if 0<=x then x-(s:Int)else x

def fA(v:ac)(l:List ac):ac:=l.foldl IQ v

def lP{a b:Bool}(h:a=true↔b=true):a=b:=by cases a<;>cases b<;>simp_all
end Go.Proofs.YtpgjgkdpeagjbaaGreatDoor

