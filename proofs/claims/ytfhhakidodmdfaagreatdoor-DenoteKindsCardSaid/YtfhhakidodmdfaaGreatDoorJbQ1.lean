/- db of this claim: K1, K2, K3, K4, L1, L2, L3, M1, M2, M3, M4, M5, M6, M7, M8, M9, M10. -/
import Derived.Test.YtfhhakidodmdfaaGreatDoorJbF
import Derived.KernelRfl
import Derived.Test.YtfhhakidodmdfaaGreatDoorJbV4
set_option linter.all false
namespace Go.Proofs.YtfhhakidodmdfaaGreatDoor
open Go

abbrev cM:=List ac
variable{n:aX}
theorem tL{n:Int}(h: -9223372036854775808≤n)(h2:n≤9223372036854775807):IntKind.i64.wrap n=n:=by
 rw [vt];omega
variable{α:Type}{xs:List α}
theorem cq{ys:List α}(h:xs.length+ys.length≤68719476736):app xs ys=some (xs++ys):=aY h
theorem Rt{i:Nat}:cN xs (i:Int)=(xs.drop i).head? :=by
 rw [bZ,List.head?_drop]
def fM(v:ac):Bool:=(dJ v).getD false
variable{v:ac}
theorem fR(v:ac):dJ v=some (fM v):=by
 unfold fM dJ
 repeat' split
 all_goals rfl
variable{k:Nat}
theorem nF(v:ac):kY v=some (if fM v then 0 else 120):=by
 obtain⟨k,n,u,s⟩:=v
 unfold fM dJ kY wQ
 simp only [kp,pL,pK,pJ]
 by_cases h0:k=0
 ·subst h0;simp
  repeat' split
  all_goals simp_all
 by_cases h1:k=1
 ·subst h1
  by_cases n0:n=0
  ·subst n0;simp
   repeat' split
   all_goals simp_all
  by_cases n1:n=1
  ·subst n1;simp
   repeat' split
   all_goals simp_all
  simp [n0,n1]
 by_cases h2:k=2
 ·subst h2;simp
  repeat' split
  all_goals simp_all
 by_cases h3:k=3
 ·subst h3;simp
  repeat' split
  all_goals simp_all
 by_cases h4:k=4
 ·subst h4;simp
  repeat' split
  all_goals simp_all
 simp [h0,h1,h2,h3,h4]
def ku(r:cM):Bool:=decide (r.length≤16)&&r.all fM
theorem Eh(v:ac):q7 v=some (!fM v):=by
 unfold q7
 rw [nF]
 cases fM v<;>rfl
variable{f:α→α→Int}{l:List cM}{r:List ac}
theorem Ci{f:ac→Option Bool}{g:ac→Bool}(hf: ∀v,f v=some (g v))(l:cM):gc l f=some (l.any g):=by
 have key: ∀(l:cM) (i:Nat),(cE f l i).bind (fun r=>some (decide ((0:Int)≤r)))=some (l.any g):=by
  intro l
  induction l with
  |nil=>intro i;simp [cE]
  |cons e t ih=>intro i;simp only [cE,hf,be];cases h:g e<;>simp [ih,h]
 exact key l 0
theorem vH(r:cM):sr r=some (ku r):=by
 unfold sr ku
 rw [Ci (g:=fun v=> !fM v) Eh]
 by_cases h:r.length≤16
 ·rw [aY (by simp;omega)]
  simp [h,List.all_eq_not_any_not]
 ·rw [aM (by simp;omega)]
  simp [h]
theorem LV{r:cM}(h:ku r=true):r.length≤16:=by
 unfold ku at h
 simp at h
 exact h.1

variable{a:ac}
theorem lx: ∀s:wB,Op.bytesLess s s=false
 |[]=>rfl
 |a::s=>by
  unfold Op.bytesLess
  simp [lx s]
def Xz:List Int→Int
 |[]=>0
 |e::t=>if e !=0 then e else Xz t
theorem B7(l:List Int):mK l=some (Xz l):=by
 unfold mK
 induction l with
 |nil=>rfl
 |cons e t ih=>simp only [fX,Xz];split<;>simp [*]
def val(x y:ac):Int:=(pp x y).getD 0
variable{x y:Int}
theorem Er(x y:ac):pp x y=some (val x y):=by
 unfold val pp qu
 repeat' split
 all_goals rfl
theorem OB(p y:Int):iJ p y=some (if p<y then -1 else if y<p then 1 else 0):=by
 unfold iJ nk
 simp
 repeat' split
 all_goals rfl
theorem G0(p y:Int):gB p y=some (if p<y then -1 else if y<p then 1 else 0):=by
 unfold gB kT
 simp
 repeat' split
 all_goals rfl
theorem GZ(p y:Int):mL p y=some (if p<y then -1 else if y<p then 1 else 0):=by
 unfold mL om
 simp
 repeat' split
 all_goals rfl
theorem OA(p y:wB):mM p y=some (if Op.bytesLess p y then -1 else if p=y then 0 else 1):=by
 unfold mM oo
 by_cases h:p=y
 ·subst h;simp [lx]
 ·cases h2:Op.bytesLess p y<;>simp [h]
theorem yW(x y:ac):o0 x y=some (val x y):=by
 unfold o0
 rw [OB,G0,GZ,OA]
 simp only [be]
 rw [B7]
 unfold val pp qu
 simp only [Xz,be]
 by_cases h1:x.Kind=y.Kind
 ·rw [h1]
  by_cases h2:x.N=y.N
  ·rw [h2]
   by_cases h3:x.U=y.U
   ·rw [h3]
    by_cases h4:x.S=y.S
    ·rw [h4];simp [lx]
    ·cases h5:Op.bytesLess x.S y.S<;>simp [h4]
   ·rcases Int.lt_or_gt_of_ne h3 with h|h
    ·simp [h3,h]
    ·have: ¬x.U<y.U:=by omega
     simp [h3,h,this]
  ·rcases Int.lt_or_gt_of_ne h2 with h|h
   ·simp [h2,h]
   ·have: ¬x.N<y.N:=by omega
    simp [h2,h,this]
 ·rcases Int.lt_or_gt_of_ne h1 with h|h
  ·simp [h1,h]
  ·have: ¬x.Kind<y.Kind:=by omega
   simp [h1,h,this]
def eM:cM→cM→Int
 |[],[]=>0
 |[],_::_=> -1
 |_::_,[]=>1
 |x::a,y::b=>if val x y !=0 then val x y else eM a b
theorem Fz(a b:cM):co a b o0=some (eM a b):=by
 unfold co
 have key: ∀(l:cM) (i:Nat),a.drop i=l→i≤a.length→bH a b o0 l i=some (eM l (b.drop i)):=by
  intro l
  induction l with
  |nil=>
   intro i h1 h2
   have h3:a.length≤i:=Hm.1 h1
   simp only [bH]
   by_cases hlt:a.length<b.length
   ·rw [aY (by simp;omega)]
    rw [wG (by omega:i<b.length)];rfl
   ·rw [aM (by simp;omega),CZ (by omega)];rfl
  |cons x t ih=>
   intro i h1 h2
   have hi:i<a.length:=by
    rcases nm i a.length with h|h
    ·exact h
    ·rw [CZ h]at h1;cases h1
   simp only [bH]
   have ht:=ih (i+1) (by rw [←qi,h1];rfl) (by omega)
   rcases nm i b.length with h|h
   ·rw [aM (by simp;omega),bZ,oy h,wG h,ht]
    simp only [be,yW,eM]
    split<;>rfl
   ·rw [aY (by simp;omega),CZ h];rfl
 exact key a 0 rfl (lC _)
theorem vI(a b:cM):pj a b=some (eM a b):=by
 unfold pj
 rw [Fz a b];rfl
theorem Ei(a b:cM):pn a b=some (if ku a&&ku b then eM a b else 0):=by
 unfold pn
 rw [vH,vH,vI]
 cases ha:ku a<;>cases hb:ku b<;>simp
theorem vK(a b:cM):pm a b=some (decide (a=b)):=by
 unfold pm iX
 by_cases hl:a.length=b.length
 ·rw [aM (by simp [hl])]
  have key: ∀(l:cM) (i:Nat),a.drop i=l→dU b l i=some (decide (l=b.drop i)):=by
   intro l
   induction l with
   |nil=>
    intro i h1
    have h3:a.length≤i:=Hm.1 h1
    rw [CZ (by omega)];rfl
   |cons x t ih=>
    intro i h1
    have hi:i<a.length:=by
     rcases nm i a.length with h|h
     ·exact h
     ·rw [CZ h]at h1;cases h1
    have ht:=ih (i+1) (by rw [←qi,h1];rfl)
    simp only [dU]
    rw [bZ,oy (by omega),wG (by omega:i<b.length)]
    simp only [be,ht]
    by_cases hx:x=b[i]
    ·rw [aM (by simp [hx])]
     exact congrArg some (DA.2 ⟨fun h=>by rw [hx,h],fun h=>(F9 h).2⟩)
    ·rw [aY (by simp [hx])]
     exact congrArg some (yw (fun h=>hx (F9 h).1)).symm
  have:=key a 0 rfl
  rw [this];simp
 ·rw [aY (by simp;omega)]
  have:a≠b:=fun e=>hl (by rw [e])
  simp [this]
theorem Cj(r:cM)(h:r.length≤68719476736):cv r=some r:=by
 unfold cv
 rw [cq (by simpa using h)];rfl
theorem yY(l:List cM)(h: ∀r∈l,r.length≤68719476736)(hl:l.length≤68719476736):sP l=some l:=by
 have key: ∀(m out:List cM),(∀r∈m,r.length≤68719476736)→out.length+m.length≤68719476736→na m out=some (out++m):=by
  intro m
  induction m with
  |nil=>intro out _ _;simp [na]
  |cons e t ih=>
   intro out h1 h2
   simp only [iO]at h2
   simp only [na]
   rw [Cj e (h1 e (kJ ..))]
   simp only [be]
   rw [cq (by simp;omega)]
   simp only [be]
   rw [ih _ (fun r hr=>h1 r (kF _ hr)) (by simp;omega)]
   simp
 have:=key l [] h (by simpa using hl)
 simpa [sP] using this

structure CW{α:Type}(f:α→α→Int):Prop where
 rng: ∀x y,f x y= -1∨f x y=0∨f x y=1
 anti: ∀x y,f y x= -f x y
 eq: ∀x y,f x y=0↔x=y
 trans: ∀x y z,f x y≤0→f y z≤0→f x z≤0
theorem CW.lt(h:CW f){x y z:α}(h1:f x y≤0)(h2:f y z≤0)(h3:f x y<0∨f y z<0):f x z<0:=by
 have h4:=h.trans x y z h1 h2
 rcases h.rng x z with h5|h5|h5
 ·omega
 ·have e:=(h.eq x z).1 h5
  subst e
  have:=h.anti x y
  omega
 ·omega
def IU(c d:Int):Int:=if c !=0 then c else d
theorem CW.lex{β:Type}{g:β→β→Int}(hf:CW f)(hg:CW g):CW (fun(p q:α×β)=>IU (f p.1 q.1) (g p.2 q.2)) where
 rng:=fun x y=>by
  unfold IU
  split
  ·exact hf.rng _ _
  ·exact hg.rng _ _
 anti:=fun x y=>by
  have h1:=hf.anti x.1 y.1
  have h2:=hg.anti x.2 y.2
  unfold IU
  by_cases h:f x.1 y.1=0
  ·have:f y.1 x.1=0:=by omega
   simp [h,this,h2]
  ·have:f y.1 x.1≠0:=by omega
   simp [h,h1]
 eq:=fun x y=>by
  unfold IU
  by_cases h:f x.1 y.1=0
  ·have e:=(hf.eq _ _).1 h
   simp only [h,yN,gp,ek]
   rw [hg.eq]
   exact⟨fun h2=>Prod.ext e h2,fun h2=>by rw [h2]⟩
  ·simp only [qo,pI,h,Cq,eQ,false_iff]
   intro e
   exact h ((hf.eq _ _).2 (by rw [e]))
 trans:=fun x y z=>by
  unfold IU
  by_cases h1:f x.1 y.1=0
  ·have e:=(hf.eq _ _).1 h1
   simp only [h1,yN,gp,ek]
   rw [←e]
   by_cases h2:f x.1 z.1=0
   ·simp only [h2,yN,gp,ek]
    exact hg.trans _ _ _
   ·simp only [qo,pI,h2,Cq,eQ]
    exact fun _ h=>h
  ·simp only [qo,pI,h1,Cq,eQ]
   by_cases h2:f y.1 z.1=0
   ·have e:=(hf.eq _ _).1 h2
    have h5:f x.1 z.1≠0:=by rw [←e];exact h1
    simp only [h5,Cq,eQ]
    intro h _
    rw [←e];exact h
   ·simp only [h2,Cq,eQ]
    intro h3 h4
    have:=hf.lt h3 h4 (by omega)
    simp only [show f x.1 z.1≠0 from by omega,Cq,eQ]
    omega
def KM(p y:Int):Int:=if p<y then -1 else if y<p then 1 else 0
theorem m5:CW KM where
 rng:=fun x y=>by
  unfold KM
  repeat' split
  all_goals omega
 anti:=fun x y=>by unfold KM;repeat' split;all_goals omega
 eq:=fun x y=>by
  unfold KM
  constructor
  ·intro h;repeat' split at h
   all_goals omega
  ·intro h;subst h;simp
 trans:=fun x y z=>by
  unfold KM
  repeat' split
  all_goals omega
theorem y9: ∀a b:wB,Op.bytesLess a b=false→Op.bytesLess b a=false→a=b
 |[],[],_,_=>rfl
 |[],_::_,h,_=>by simp [Op.bytesLess]at h
 |_::_,[],_,h=>by simp [Op.bytesLess]at h
 |x::a,y::b,h,k=>by
  simp only [Op.bytesLess,Bool.or_eq_false_iff,FH,Bool.and_eq_false_imp,qZ]at h k
  have e:x=y:=by
   have h1:=h.1
   have h2:=k.1
   exact UInt8.le_antisymm (UInt8.not_lt.1 h2) (UInt8.not_lt.1 h1)
  subst e
  rw [y9 a b (h.2 rfl) (k.2 rfl)]
theorem rK: ∀a b c:wB,Op.bytesLess a b=true→Op.bytesLess b c=true→Op.bytesLess a c=true
 |_,[],_,h,_=>by cases ‹List UInt8› <;>simp [Op.bytesLess]at h
 |_,_::_,[],_,h=>by simp [Op.bytesLess]at h
 |[],_::_,_::_,_,_=>rfl
 |x::a,y::b,z::c,h,k=>by
  simp only [Op.bytesLess,pH,kO,kN,qZ]at h k ⊢
  rcases h with h|⟨h1,h2⟩
  ·rcases k with k|⟨k1,_⟩
   ·exact .inl (UInt8.lt_trans h k)
   ·subst k1;exact .inl h
  ·subst h1
   rcases k with k|⟨k1,k2⟩
   ·exact .inl k
   ·exact .inr ⟨k1,rK a b c h2 k2⟩
def PQ(p y:wB):Int:=if Op.bytesLess p y then -1 else if p=y then 0 else 1
theorem Fc{a b:wB}(h:Op.bytesLess a b=true):Op.bytesLess b a=false:=by
 cases k:Op.bytesLess b a with
 |false=>rfl
 |true=>have:=rK a b a h k;rw [lx]at this;cases this
theorem Bf:CW PQ where
 rng:=fun x y=>by
  unfold PQ
  split
  ·exact .inl rfl
  split
  ·exact .inr (.inl rfl)
  ·exact .inr (.inr rfl)
 anti:=fun x y=>by
  unfold PQ
  cases h:Op.bytesLess x y with
  |true=>
   have h2:=Fc h
   have:y≠x:=fun e=>by rw [e,lx]at h;cases h
   simp [h2,this]
  |false=>
   cases k:Op.bytesLess y x with
   |true=>
    have:x≠y:=fun e=>by rw [e,lx]at k;cases k
    simp [this]
   |false=>have:=y9 x y h k;simp [this]
 eq:=fun x y=>by
  unfold PQ
  constructor
  ·intro h;repeat' split at h
   all_goals simp_all
  ·intro h;subst h;simp [lx]
 trans:=fun x y z=>by
  unfold PQ
  intro h1 h2
  cases hxy:Op.bytesLess x y with
  |true=>
   cases hyz:Op.bytesLess y z with
   |true=>simp [rK x y z hxy hyz]
   |false=>
    rw [hyz]at h2
    by_cases e:y=z
    ·subst e;simp [hxy]
    ·simp [e]at h2
  |false=>
   rw [hxy]at h1
   by_cases e:x=y
   ·subst e;exact h2
   ·simp [e]at h1
def key(v:ac):Int×Int×Int×wB:=(v.Kind,v.N,v.U,v.S)
theorem Zm(a b c d:Int):Xz [a,b,c,d]=IU a (IU b (IU c d)):=by
 simp only [Xz,IU]
 by_cases h:d=0
 ·simp [h]
 ·simp [h]
theorem sM(x y:ac):val x y=IU (KM x.Kind y.Kind) (IU (KM x.N y.N) (IU (KM x.U y.U) (PQ x.S y.S))):=by
 have h:=yW x y
 unfold o0 at h
 rw [OB,G0,GZ,OA]at h
 simp only [be]at h
 rw [B7]at h
 simp only [be,Al]at h
 rw [←h,Zm]
 rfl
theorem rR:CW val where
 rng:=fun x y=>by rw [sM];exact(m5.lex (m5.lex (m5.lex Bf))).rng (key x) (key y)
 anti:=fun x y=>by rw [sM,sM];exact(m5.lex (m5.lex (m5.lex Bf))).anti (key x) (key y)
 eq:=fun x y=>by
  rw [sM]
  refine((m5.lex (m5.lex (m5.lex Bf))).eq (key x) (key y)).trans ⟨fun h=>?_,fun h=>by rw [h]⟩
  cases x;cases y
  simp only [key,Prod.mk.injEq]at h
  simp [h]
 trans:=fun x y z=>by rw [sM,sM,sM];exact(m5.lex (m5.lex (m5.lex Bf))).trans (key x) (key y) (key z)
theorem i9:CW eM where
 rng:=by
  intro x
  induction x with
  |nil=>intro y;cases y<;>simp [eM]
  |cons a x ih=>
   intro y
   cases y with
   |nil=>simp [eM]
   |cons b y=>
    simp only [eM]
    split
    ·exact rR.rng a b
    ·exact ih y
 anti:=by
  intro x
  induction x with
  |nil=>intro y;cases y<;>simp [eM]
  |cons a x ih=>
   intro y
   cases y with
   |nil=>simp [eM]
   |cons b y=>
    simp only [eM]
    have h:=rR.anti a b
    by_cases h1:val a b=0
    ·have h2:val b a=0:=by omega
     simp [h1,h2,ih y]
    ·have h2:val b a≠0:=by omega
     simp [h1,h]
 eq:=by
  intro x
  induction x with
  |nil=>intro y;cases y<;>simp [eM]
  |cons a x ih=>
   intro y
   cases y with
   |nil=>simp [eM]
   |cons b y=>
    simp only [eM]
    by_cases h1:val a b=0
    ·have e:=(rR.eq a b).1 h1
     subst e
     simp [h1,ih y]
    ·have e:a≠b:=fun e=>h1 ((rR.eq a b).2 e)
     simp [h1,e]
 trans:=by
  intro x
  induction x with
  |nil=>intro y z;cases y<;>cases z<;>simp [eM]
  |cons a x ih=>
   intro y z
   cases y with
   |nil=>simp [eM]
   |cons b y=>
    cases z with
    |nil=>simp [eM]
    |cons c z=>
     simp only [eM]
     by_cases h1:val a b=0
     ·have e:=(rR.eq a b).1 h1
      subst e
      by_cases h2:val a c=0
      ·simp [h1,h2];exact ih y z
      ·simp [h1,h2]
     ·by_cases h2:val b c=0
      ·have e:=(rR.eq b c).1 h2
       subst e
       simp only [h1,h2,qo,pI,Cq,eQ]
       simp only [IY,ek]
       exact fun h _=>h
      ·simp only [h1,h2,qo,pI,Cq,eQ]
       intro h3 h4
       have:=rR.lt h3 h4 (by omega)
       rw [aY (by omega)]
       omega

section
def SY(f:α→α→Int)(x y:α):Bool:=decide (f x y<0)
theorem CW.self(h:CW f)(x:α):f x x=0:=(h.eq x x).2 rfl
def sk(f:α→α→Int)(l:List α):Prop:=l.Pairwise (fun a b=>f a b≤0)
theorem yU(h:CW f){a b:List α}(ha:sk f a)(hb:sk f b)(hp:a.Perm b):a=b:=
 List.Perm.eq_of_pairwise (le:=fun x y=>f x y≤0) (fun x y _ _ h1 h2=>(h.eq x y).1 (by have:=h.anti x y;omega)) ha hb hp
theorem xC(h:CW f){c:α×α→Option Int}(hc: ∀x y,c (x,y)=some (f x y)){l:List α}(hl:l.length≤1099511627776):z7 c l:=by
 have hlt: ∀x y,uA c x y=SY f x y:=fun x y=>by unfold uA SY;rw [hc]
 refine⟨hl,fun x _ y _=>by rw [hc];rfl,fun x _=>by rw [hlt];unfold SY;rw [h.self];rfl,fun x _ y _ z _ h1 h2=>?_,fun x _ y _ h1 h2=>?_⟩
 ·rw [hlt]at*
  unfold SY at*
  have h1' :=I2 h1
  have h2' :=I2 h2
  exact yu (h.lt (by omega) (by omega) (.inl h1'))
 ·rw [hlt]at*
  unfold SY at*
  have h1' :=of_decide_eq_false h1
  have h2' :=of_decide_eq_false h2
  have:=h.anti x y
  exact(h.eq x y).1 (by omega)
def uu(f:α→α→Int)(l:List α):List α:=y6 (SY f) l
theorem nH(f:α→α→Int)(l:List α):(uu f l).Perm l:=s7 _ l
theorem zn(h:CW f)(l:List α)(hl:l.length≤1099511627776):sk f (uu f l):=by
 have hg:=xC h (c:=fun p=>some (f p.1 p.2)) (fun _ _=>rfl) hl
 have:=vS hg l (fun y hy=>hy)
 have e:uA (fun p:α×α=>some (f p.1 p.2))=SY f:=by funext x y;rfl
 rw [e]at this
 refine this.imp fun{a b} hab=>?_
 unfold SY at hab
 have h1:=of_decide_eq_false hab
 have:=h.anti b a
 omega
theorem Pb [DecidableEq α](h:CW f){c:α×α→Option Int}(hc: ∀x y,c (x,y)=some (f x y)){l:List α}(hl:l.length≤1099511627776):yV c l=some (uu f l):=by
 rw [D1 (xC h hc hl)]
 have e:uA c=SY f:=by funext x y;unfold uA SY;rw [hc]
 rw [e];rfl
def put(f:α→α→Int)(x:α):List α→List α
 |[]=>[x]
 |y::l=>if f x y<0 then x::y::l else y::put f x l
theorem xI(f:α→α→Int)(l:List α):(uu f l).length=l.length:=(nH f l).length_eq
end
def tm{α:Type} [DecidableEq α]:α→List α→List α
 |_,[]=>[]
 |p,x::t=>if x=p then tm x t else x::tm x t
theorem Bd [DecidableEq α](p:α):tm p []=[]:=by unfold tm;rfl
theorem yf [DecidableEq α]{p x:α}(h:x=p)(t:List α):tm p (x::t)=tm x t:=by
 conv=>lhs;unfold tm
 rw [aY h]
theorem Du [DecidableEq α]{p x:α}(h: ¬x=p)(t:List α):tm p (x::t)=x::tm x t:=by
 conv=>lhs;unfold tm
 rw [aM h]
def ui{α:Type} [DecidableEq α]:List α→List α
 |[]=>[]
 |x::t=>x::tm x t
theorem KI{α:Type} [DecidableEq α]: ∀(p:α) (l:List α),(tm p l).length≤l.length
 |_,[]=>dK _
 |p,x::t=>by
  unfold tm
  have:=KI x t
  split<;>simp<;>omega
theorem PO [DecidableEq α](l:List α):(ui l).length≤l.length:=by
 cases l with
 |nil=>exact dK _
 |cons x t=>have:=KI x t;simp [ui];omega
theorem Fa{α:Type} [DecidableEq α]: ∀(p:α) (l:List α) (z:α),z∈tm p l→z∈l
 |p,x::t,z,h=>by
  unfold tm at h
  split at h
  ·exact kF _ (Fa x t z h)
  ·rcases fc.1 h with rfl|h
   ·exact kJ ..
   ·exact kF _ (Fa x t z h)
theorem EJ{α:Type} [DecidableEq α]: ∀(p:α) (l:List α) (z:α),z∈l→z=p∨z∈tm p l
 |p,x::t,z,h=>by
  unfold tm
  by_cases hx:x=p
  ·rw [aY hx]
   rcases fc.1 h with rfl|h
   ·exact .inl hx
   ·rcases EJ x t z h with h|h
    ·exact .inl (h.trans hx)
    ·exact .inr h
  ·rw [aM hx]
   rcases fc.1 h with rfl|h
   ·exact .inr (kJ ..)
   ·rcases EJ x t z h with h|h
    ·exact .inr (by rw [h];exact kJ ..)
    ·exact .inr (kF _ h)
theorem xW [DecidableEq α](l:List α)(z:α):z∈ui l↔z∈l:=by
 cases l with
 |nil=>exact Iff.rfl
 |cons x t=>
  constructor
  ·intro h
   rcases fc.1 h with rfl|h
   ·exact kJ ..
   ·exact kF _ (Fa x t z h)
  ·intro h
   rcases fc.1 h with rfl|h
   ·exact kJ ..
   ·rcases EJ x t z h with rfl|h
    ·exact kJ ..
    ·exact kF _ h
theorem xv{α:Type} [DecidableEq α]{f:α→α→Int}(hf:CW f): ∀(p:α) (l:List α),sk f (p::l)→(p::tm p l).Pairwise (fun a b=>f a b<0)
 |p,[],_=>List.pairwise_singleton _ _
 |p,x::t,h=>by
  have h1:=Bu.1 h
  unfold tm
  by_cases hx:x=p
  ·rw [aY hx]
   subst hx
   exact xv hf x t h1.2
  ·rw [aM hx]
   have h2:=xv hf x t h1.2
   have hlt:f p x<0:=by
    have:=h1.1 x (kJ ..)
    rcases Int.lt_or_eq_of_le this with h|h
    ·exact h
    ·exact absurd ((hf.eq p x).1 h).symm hx
   refine Bu.2 ⟨fun z hz=>?_,h2⟩
   rcases fc.1 hz with rfl|hz
   ·exact hlt
   ·exact hf.lt (by omega) (by have:=(Bu.1 h2).1 z hz;omega) (.inl hlt)
theorem ID [DecidableEq α](hf:CW f){l:List α}(h:sk f l):(ui l).Pairwise (fun a b=>f a b<0):=by
 cases l with
 |nil=>exact List.Pairwise.nil
 |cons x t=>exact xv hf x t h

abbrev ab0:=i9
def Wg(n:Nat):Int:=if 8000<n then 3 else 0
def TP:List (List cM)→Nat→Nat
 |[],n=>n
 |l::t,n=>TP t (max n l.length)
def vh(l:List cM):Bool:=l.all ku
def YW(ls:List (List cM)):Int:=if ls.all vh then Wg (TP ls 0)else 150
theorem vJ(ls:List (List cM)):uV ls=some (YW ls):=by
 have key2: ∀(l:List cM) (nx:Int→Option Int) (e:List cM) (n:Int),pO nx e n l=if vh l then nx (max n (e.length:Int))else some 150:=by
  intro l
  induction l with
  |nil=>intro nx e n;rfl
  |cons r t ih=>
   intro nx e n
   have ih' :=ih nx e n
   unfold pO
   rw [vH]
   simp only [be]
   rw [ih']
   unfold vh
   cases h:ku r<;>simp [h]
 have key: ∀(ls:List (List cM)) (n:Nat),k6 ls (n:Int)=some (if ls.all vh then Wg (TP ls n)else 150):=by
  intro ls
  induction ls with
  |nil=>
   intro n
   show k6 [] (n:Int)=some (Wg n)
   unfold k6 Wg
   by_cases h:8000<n
   ·rw [aY (by simp;omega),aY h]
   ·rw [aM (by simp;omega),aM h]
  |cons l t ih=>
   intro n
   unfold k6
   rw [key2,show max (n:Int) (l.length:Int)=((max n l.length:Nat):Int)from by omega,ih]
   show _=some (if(vh l&&t.all vh)=true then Wg (TP t (max n l.length))else 150)
   cases h:vh l<;>simp
 exact key ls 0
theorem Re{n:Nat}(h:n≤8000):Wg n=0:=by unfold Wg;rw [aM (by omega)]
theorem Hu(l:List cM)(h:l.length≤8000):YW [l]=if vh l then 0 else 150:=by
 show(if(vh l&&true)=true then Wg (max 0 l.length)else 150)=_
 rw [Re (by omega),yM]
structure G5(l:List cM):Prop where
 len:l.length≤8000
 row: ∀r∈l,r.length≤1000
abbrev zp(l:List cM):List cM:=uu eM l
theorem yX(h:G5 l):sO l=some (zp l):=by
 unfold sO
 rw [yY l (fun r hr=>by have:=h.row r hr;omega) (by have:=h.len;omega)]
 simp only [be]
 rw [Pb ab0 (fun x y=>vI x y) (by have:=h.len;omega)]
 rfl
theorem FQ(h:G5 l):vL l=some (if vh l then(zp l,0)else([],150)):=by
 unfold vL
 rw [vJ,Hu l h.len,yX h]
 cases vh l<;>rfl
theorem cn{n:Int}(h: -9223372036854775808≤n)(h2:n≤9223372036854775807):IntKind.i64.wrap n=n:=by rw [vt];omega
theorem lF{l m:Nat}(h:l≤m)(h2:m≤xs.length):dD xs (l:Int) (m:Int)=some ((xs.take m).drop l):=by
 unfold dD
 rw [aY (by omega)]
 simp
theorem MM(p:List cM)(hp:p.length≤8000)(i:Nat)(y:List cM)(hy:i+y.length=p.length): ∀(k i1:Nat) (x:List cM) (x1:Nat),i1+k=y.length→0<i1→x.length=p.length→x1+1≤i+i1→x.drop (i+i1-1)=p.drop (i+i1-1)→
  ce pm i y k i1 x (x1:Int)=some (x.take x1++tm ((p[i+i1-1]?).getD []) (p.drop (i+i1))):=by
 intro k
 induction k with
 |zero=>
  intro i1 x x1 h1 h0 hx h2 h3
  simp only [ce]
  have hx1:x1≤x.length:=by omega
  rw [lF hx1 (dK _)]
  simp only [be,wL,Af]
  rw [show((0:Int))=((0:Nat):Int)from rfl,lF (lC _) (by simp;omega)]
  simp only [be,yr]
  have hn:p.drop (i+i1)=[]:=CZ (by omega)
  rw [hn,Bd,sG,C0 (by simp;omega),Bs,Nat.min_self]
 |succ k ih=>
  intro i1 x x1 h1 h0 hx h2 h3
  have e1:x[i+i1]? =p[i+i1]? :=by
   have:=congrArg (fun l:List cM=>l[1]?) h3
   simp only [wF]at this
   rwa [show i+i1-1+1=i+i1 from by omega]at this
  have e0:x[i+i1-1]? =p[i+i1-1]? :=by
   have:=congrArg (fun l:List cM=>l[0]?) h3
   simpa only [wF,yq] using this
  have hlt:i+i1<p.length:=by omega
  have g1:xj x (i:Int) y.length (i1:Int)=some p[i+i1]:=by
   unfold xj
   rw [aY (by omega),show(i:Int)+(i1:Int)=((i+i1:Nat):Int)from by omega,bZ,e1,oy hlt]
  have g0:xj x (i:Int) y.length (IntKind.i64.wrap ((i1:Int)-1))=some p[i+i1-1]:=by
   rw [cn (by omega) (by omega)]
   unfold xj
   rw [aY (by omega),show(i:Int)+((i1:Int)-1)=((i+i1-1:Nat):Int)from by omega,bZ,e0,oy (by omega)]
  have hd:p.drop (i+i1)=p[i+i1]::p.drop (i+i1+1):=wG hlt
  have hp1:(p[i+i1-1]?).getD []=p[i+i1-1]:=by rw [oy (by omega)];rfl
  simp only [ce,g1,g0,be,vK]
  rw [hd,hp1]
  by_cases hx2:p[i+i1]=p[i+i1-1]
  ·rw [aM (by simp [hx2])]
   have h3' :x.drop (i+(i1+1)-1)=p.drop (i+(i1+1)-1):=by
    have:=congrArg (List.drop 1) h3
    rwa [qi,qi,show i+i1-1+1=i+(i1+1)-1 from by omega]at this
   rw [ih (i1+1) x x1 (by omega) (by omega) hx (by omega) h3']
   rw [yf hx2,show i+(i1+1)-1=i+i1 from by omega,oy hlt,show i+(i1+1)=i+i1+1 from by omega]
   rfl
  ·rw [aY (by simp [hx2]),bZ,oy (by omega)]
   simp only [be,Af]
   rw [cn (by omega) (by omega),show((x1:Int)+1)=((x1+1:Nat):Int)from by omega]
   have h3' :(x.set x1 p[i+i1]).drop (i+(i1+1)-1)=p.drop (i+(i1+1)-1):=by
    rw [List.drop_set_of_lt (by omega)]
    have:=congrArg (List.drop 1) h3
    rwa [qi,qi,show i+i1-1+1=i+(i1+1)-1 from by omega]at this
   rw [ih (i1+1) _ (x1+1) (by omega) (by omega) (by simpa using hx) (by omega) h3']
   rw [Du hx2,show i+(i1+1)-1=i+i1 from by omega,oy hlt,show i+(i1+1)=i+i1+1 from by omega]
   have ht:(x.set x1 p[i+i1]).take (x1+1)=x.take x1++[p[i+i1]]:=by
    rw [I5 (by simp;omega),List.take_set_of_le (by omega)]
    simp
   rw [ht]
   simp
theorem MN(p:List cM)(hp:p.length≤8000):eW p pm=some (ui p):=by
 unfold eW
 by_cases h2:p.length<2
 ·rw [aY (by simp;omega)]
  match p,h2 with
  |[],_=>rfl
  |[x],_=>rfl
 ·rw [aM (by simp;omega)]
  have key: ∀(l:List cM) (i:Nat),p.drop i=l→0<i→i≤p.length→ui p=p.take i++tm ((p[i-1]?).getD []) (p.drop i)→cF p pm l i=some (ui p):=by
   intro l
   induction l with
   |nil=>
    intro i h1 h0 hle h3
    have:=Hm.1 h1
    simp only [cF]
    rw [h3,h1,rO (by omega),Bd,sG]
   |cons x t ih=>
    intro i h1 h0 hle h3
    have hi:i<p.length:=by
     rcases nm i p.length with h|h
     ·exact h
     ·rw [CZ h]at h1;cases h1
    have hx:x=p[i]:=by rw [wG hi]at h1;exact(F9 h1).1.symm
    have ht:p.drop (i+1)=t:=by rw [←qi,h1];rfl
    have hp1:(p[i-1]?).getD []=p[i-1]:=by rw [oy (by omega)];rfl
    simp only [cF]
    rw [cn (by omega) (by omega),show(i:Int)-1=((i-1:Nat):Int)from by omega,bZ,oy (by omega)]
    simp only [be,vK]
    by_cases he:x=p[i-1]
    ·rw [aY (by simp [he])]
     rw [lF hle (dK _)]
     simp only [be,wL]
     rw [MM p hp i (p.drop i) (by simp;omega) _ 1 p i (by simp;omega) (by omega) rfl (by omega) (by simp)]
     rw [h3,h1,hp1,yf he,←ht,hx]
     rw [show i+1-1=i from by omega,oy hi];rfl
    ·rw [aM (by simp [he])]
     refine ih (i+1) ht (by omega) (by omega) ?_
     rw [h3,h1,hp1,Du he,I5 hi,←ht,hx,show i+1-1=i from by omega,oy hi]
     rw [jP];rfl
  have hpc:p=p[0]::p.drop 1:=by
   have:=wG (l:=p) (i:=0) (by omega)
   simpa using this
  refine key (p.drop 1) 1 rfl (by omega) (by omega) ?_
  have e:(p[1-1]?).getD []=p[0]:=by simp [oy (show 0<p.length by omega)]
  rw [e]
  conv=>lhs;rw [hpc]
  have e2:p.take 1=[p[0]]:=by
   conv=>lhs;rw [hpc]
   rfl
  rw [e2];rfl
theorem C5(h:G5 l):rZ l=some (if vh l then(ui (zp l),0)else([],150)):=by
 unfold rZ
 rw [vJ,Hu l h.len,yX h]
 simp only [be]
 rw [MN _ (by rw [xI];exact h.len)]
 cases vh l<;>rfl

theorem VY(n:Int)(h0:0≤n)(h:n≤68719476736):hZ n=some []:=by
 unfold hZ iW
 rw [aM (by simp;omega)]
 have e:IntKind.i64.wrap (n-IntKind.i64.wrap ((0:Int)-0))=n:=by
  rw [cn (n:=(0:Int)-0) (by omega) (by omega),cn (by omega) (by omega)];omega
 rw [e]
 by_cases hp:0<n
 ·rw [aY (by simpa using hp)]
  unfold Wj nC
  rw [aY hp]
  simp only [be]
  rw [aY ⟨h0,h⟩]
  simp only [be]
  rw [show dD (List.replicate n.toNat ([]:cM)) 0 0=some []from by unfold dD;rw [aY (by simp;omega)];simp]
  rfl
 ·rw [aM (by simpa using hp)];rfl
theorem Nh(a b:List cM)(ha:a.length≤8000)(hb:b.length≤8000):eO [a,b]=some (a++b):=by
 unfold eO
 simp only [fG]
 rw [cn (n:=(0:Int)+(a.length:Int)) (by omega) (by omega),aM (by simp),cn (by omega) (by omega),aM (by simp;omega),VY _ (by omega) (by omega)]
 simp only [be,fF]
 rw [cq (by simp;omega)]
 simp only [be,kL]
 rw [cq (by omega)]
 rfl

theorem lG{i j:Int}(l m:Nat)(hi:i=(l:Int))(hj:j=(m:Int))(h:l≤m)(h2:m≤xs.length):dD xs i j=some ((xs.take m).drop l):=by
 subst hi hj;exact lF h h2
theorem gT{i:Int}(k:Nat)(hi:i=(k:Int)):cN xs i=xs[k]? :=by subst hi;exact bZ _ _
def mw(v:ac):Bool:=fM v&&(v.Kind !=4)
theorem sL(v:ac):ma v=some (mw v):=by
 unfold ma mw
 rw [nF]
 cases fM v<;>simp
theorem jo(v:ac):md v=some (mw v):=by
 unfold md mw
 rw [fR]
 rfl
theorem JG(h:mw v=true):0≤v.Kind∧v.Kind≤3:=by
 obtain⟨k,n,u,s⟩:=v
 unfold mw fM dJ at h
 simp only [kN,qo,pI]at h
 obtain⟨h1,h2⟩:=h
 by_cases h0:k=0
 ·simp [h0]
 by_cases k1:k=1
 ·simp [k1]
 by_cases k2:k=2
 ·simp [k2]
 by_cases k3:k=3
 ·simp [k3]
 simp [h0,k1,k2,k3,h2]at h1
def pk(tag:Int):Option Nat:=if tag=1∨tag=2 then some 0 else if 4≤tag∧tag≤7 then some 1 else if 12≤tag∧tag≤23 then some 2 else none
def HV(tag:Int):Int:=match pk tag with
 |some k=>(k:Int)
 |none=> -1
variable{tag:Int}
theorem y7(tag:Int):pc tag=some (HV tag):=by
 unfold pc HV pk
 by_cases h1:tag=1∨tag=2
 ·rw [aY h1,aY (by simpa using h1)];rfl
 rw [aM h1,aM (by simpa using h1)]
 by_cases h2:4≤tag∧tag≤7
 ·rw [aY h2,aY (by simpa using h2)];rfl
 rw [aM h2,aM (by simpa using h2)]
 by_cases h3:12≤tag∧tag≤23
 ·rw [aY h3,aY (by simpa using h3)];rfl
 rw [aM h3,aM (by simpa using h3)]
theorem pR(tag:Int):w7 tag=some (HV tag):=by
 unfold w7 CB HV pk
 by_cases h1:tag=1∨tag=2
 ·rw [aY h1];rcases h1 with rfl|rfl<;>rfl
 rw [aM h1]
 by_cases h2:4≤tag∧tag≤7
 ·rw [aY h2]
  have:tag=4∨tag=5∨tag=6∨tag=7:=by omega
  rcases this with rfl|rfl|rfl|rfl<;>rfl
 rw [aM h2]
 by_cases h3:12≤tag∧tag≤23
 ·rw [aY h3,aM (by simp;omega),aM (by simp;omega),aM (by simp;omega),aM (by simp;omega)];rfl
 rw [aM h3]
 by_cases h4:tag=3∨(8≤tag∧tag≤11)
 ·rw [aY (by simpa using h4)]
 rw [aM (by simpa using h4),aY (by simp;omega)]
 rfl
def IT(n:aX):Bool:=(mt n).getD false
theorem jD(n:aX):mt n=some (IT n):=by
 unfold IT mt
 rw [jo]
 split
 ·rfl
 ·split<;>rfl
theorem E4(n:aX):ud n=some (IT n):=by
 rw [←jD]
 unfold ud mt
 rw [jo,sL]
inductive Tr where
 |lf (n:aX)
 |un (n:aX) (a:Tr)
 |bi (n:aX) (a b:Tr)
 deriving Inhabited
def Tr.size:Tr→Nat
 | .lf _=>1
 | .un _ a=>a.size+1
 | .bi _ a b=>a.size+b.size+1
def g9(n:aX)(l r:Int):aX:={n with L:=l,R:=r}
def Tr.flat:Tr→Nat→List aX
 | .lf n,_=>[g9 n (-1) (-1)]
 | .un n a,s=>a.flat s++[g9 n ((s+a.size:Nat)-1) (-1)]
 | .bi n a b,s=>a.flat s++b.flat (s+a.size)++[g9 n ((s+a.size:Nat)-1) ((s+a.size+b.size:Nat)-1)]
def XE(k:Nat)(n:aX):Prop:=pk n.Tag=some k∧IT n=true∧n.L= -1∧n.R= -1
def Tr.wf:Tr→Prop
 | .lf n=>XE 0 n
 | .un n a=>XE 1 n∧a.wf
 | .bi n a b=>XE 2 n∧a.wf∧b.wf
theorem Tr.size_pos(t:Tr):0<t.size:=by cases t<;>simp [Tr.size]
theorem Tr.flat_len(t:Tr): ∀s,(t.flat s).length=t.size:=by
 induction t with
 |lf n=>intro s;rfl
 |un n a ih=>intro s;simp [Tr.flat,Tr.size,ih]
 |bi n a b iha ihb=>intro s;simp [Tr.flat,Tr.size,iha,ihb];omega
def bY:List Tr→Nat
 |[]=>0
 |t::st=>bY st+t.size
def wo:List Tr→List aX
 |[]=>[]
 |t::st=>wo st++t.flat (bY st)
theorem GP: ∀st:List Tr,(wo st).length=bY st
 |[]=>rfl
 |t::st=>by simp [wo,bY,GP st,t.flat_len]
theorem Gu: ∀st:List Tr,st.length≤bY st
 |[]=>dK _
 |t::st=>by have:=Gu st;have:=t.size_pos;simp [bY];omega
def push(st:List Tr)(n:aX):Option (List Tr):=
 match pk n.Tag,st with
 |some 0,st=>if IT n&&n.L== -1&&n.R== -1 then some (.lf (g9 n (-1) (-1))::st)else none
 |some 1,a::st=>if IT n&&n.L==((bY st+a.size:Nat):Int)-1&&n.R== -1 then some (.un (g9 n (-1) (-1)) a::st)else none
 |some 2,b::a::st=>if IT n&&n.L==((bY st+a.size:Nat):Int)-1&&n.R==((bY st+a.size+b.size:Nat):Int)-1 then some (.bi (g9 n (-1) (-1)) a b::st)else none
 |_,_=>none
def pq:List aX→List Tr→Option (List Tr)
 |[],st=>some st
 |n::ns,st=>(push st n).bind (pq ns)
def wfs(st:List Tr):Prop:= ∀t∈st,t.wf
theorem xR{l r:Int}(h:n.L=l)(h2:n.R=r):g9 (g9 n (-1) (-1)) l r=n:=by subst h h2;rfl
theorem Pj{st st' :List Tr}(h:push st n=some st')(hw:wfs st):wo st' =wo st++[n]∧bY st' =bY st+1∧wfs st' :=by
 unfold push at h
 split at h
 ·rename_i k st0 hk
  split at h
  ·rename_i hc
   simp only [kN,qZ]at hc
   obtain⟨⟨h1,h2⟩,h3⟩:=hc
   cases h
   refine⟨?_,rfl,fun t ht=>?_⟩
   ·simp only [wo,Tr.flat]
    rw [xR h2 h3]
   ·rcases fc.1 ht with rfl|ht
    ·exact⟨hk,h1,rfl,rfl⟩
    ·exact hw t ht
  ·cases h
 ·rename_i k a st0 hk
  split at h
  ·rename_i hc
   simp only [kN,qZ]at hc
   obtain⟨⟨h1,h2⟩,h3⟩:=hc
   cases h
   refine⟨?_,by simp [bY,Tr.size];omega,fun t ht=>?_⟩
   ·simp only [wo,Tr.flat]
    rw [xR h2 h3,jP]
   ·rcases fc.1 ht with rfl|ht
    ·exact⟨⟨hk,h1,rfl,rfl⟩,hw a (kJ ..)⟩
    ·exact hw t (kF _ ht)
  ·cases h
 ·rename_i k b a st0 hk
  split at h
  ·rename_i hc
   simp only [kN,qZ]at hc
   obtain⟨⟨h1,h2⟩,h3⟩:=hc
   cases h
   refine⟨?_,by simp [bY,Tr.size];omega,fun t ht=>?_⟩
   ·simp only [wo,Tr.flat,bY]
    rw [xR h2 h3]
    simp only [jP]
   ·rcases fc.1 ht with rfl|ht
    ·exact⟨⟨hk,h1,rfl,rfl⟩,hw a (kF _ (kJ ..)),hw b (kJ ..)⟩
    ·exact hw t (kF _ (kF _ ht))
  ·cases h
 ·cases h
variable{ns:List aX}
theorem zC: ∀{ns:List aX} {st st' :List Tr},pq ns st=some st' →wfs st→wo st' =wo st++ns∧wfs st'
 |[],st,st',h,hw=>by cases h;simp [hw]
 |n::ns,st,st',h,hw=>by
  unfold pq at h
  cases hp:push st n with
  |none=>rw [hp]at h;cases h
  |some st1=>
   rw [hp]at h
   obtain⟨h1,_,h3⟩:=Pj hp hw
   obtain⟨h4,h5⟩:=zC (ns:=ns) h h3
   exact⟨by rw [h4,h1];simp,h5⟩
theorem sa: ∀(ns ms:List aX) (st:List Tr),pq (ns++ms) st=(pq ns st).bind (pq ms)
 |[],ms,st=>rfl
 |n::ns,ms,st=>by
  simp only [wC,pq]
  cases push st n with
  |none=>rfl
  |some st1=>exact sa ns ms st1
theorem L0(t:Tr): ∀(st:List Tr),t.wf→pq (t.flat (bY st)) st=some (t::st):=by
 induction t with
 |lf n=>
  intro st ⟨h1,h2,h3,h4⟩
  have hn' :g9 n (-1) (-1)=n:=by cases n;simp only at h3 h4;subst h3 h4;rfl
  simp only [Tr.flat,pq,push,hn']
  rw [h1]
  simp [h2,h3,h4,pq,hn']
 |un n a ih=>
  intro st ⟨⟨h1,h2,h3,h4⟩,ha⟩
  have hn' :g9 n (-1) (-1)=n:=by cases n;simp only at h3 h4;subst h3 h4;rfl
  simp only [Tr.flat]
  rw [sa,ih st ha]
  simp only [be,pq,push]
  have e1:(g9 n (((bY st+a.size:Nat):Int)-1) (-1)).Tag=n.Tag:=rfl
  rw [e1,h1]
  have e2:IT (g9 n (((bY st+a.size:Nat):Int)-1) (-1))=true:=h2
  rw [e2]
  simp only [g9,Gg,Bool.and_self,eQ,be,pq]
  simp only [g9]at hn'
  rw [hn']
 |bi n a b iha ihb=>
  intro st ⟨⟨h1,h2,h3,h4⟩,ha,hb⟩
  have hn' :g9 n (-1) (-1)=n:=by cases n;simp only at h3 h4;subst h3 h4;rfl
  simp only [Tr.flat]
  rw [sa,sa,iha st ha]
  simp only [be]
  have e0:bY st+a.size=bY (a::st):=rfl
  rw [e0,ihb (a::st) hb]
  simp only [be,pq,push]
  have e1:(g9 n (((bY (a::st):Nat):Int)-1) (((bY (a::st)+b.size:Nat):Int)-1)).Tag=n.Tag:=rfl
  rw [e1,h1]
  have e2:IT (g9 n (((bY (a::st):Nat):Int)-1) (((bY (a::st)+b.size:Nat):Int)-1))=true:=h2
  rw [e2]
  simp only [g9,bY,Gg,Bool.and_self,eQ,be,pq]
  simp only [g9]at hn'
  rw [hn']
def mg(ns:List aX):Option Tr:=match pq ns []with
 |some [t]=>if ns.length≤1000 then some t else none
 |_=>none
theorem jX{t:Tr}(h:mg ns=some t):t.wf∧ns=t.flat 0∧t.size≤1000:=by
 unfold mg at h
 split at h
 ·rename_i t0 hp
  split at h
  ·rename_i hl
   cases h
   obtain⟨h1,h2⟩:=zC hp (fun t ht=>by cases ht)
   simp only [wo,bY,kL]at h1
   exact⟨h2 t (kJ ..),h1.symm,by rw [←t.flat_len 0,h1];exact hl⟩
  ·cases h
 ·cases h
theorem Jg{t:Tr}(h:t.wf)(hs:t.size≤1000):mg (t.flat 0)=some t:=by
 unfold mg
 have h0:=L0 t [] h
 simp only [bY]at h0
 rw [h0]
 simp only [t.flat_len,hs,eQ]
def fl:Tr→Nat→List Int
 | .lf _,s=>[(s:Int)]
 | .un _ a,s=>fl a s++[(s:Int)]
 | .bi _ a b,s=>fl a s++fl b (s+a.size)++[(s:Int)]
def PB:List Tr→List Int
 |[]=>[]
 |t::st=>PB st++fl t (bY st)
def mn:List Tr→List Int
 |[]=>[]
 |t::st=>mn st++[((bY st+t.size:Nat):Int)-1]
theorem vT(t:Tr): ∀s,(fl t s).length=t.size:=by
 induction t with
 |lf n=>intro s;rfl
 |un n a ih=>intro s;simp [fl,Tr.size,ih]
 |bi n a b iha ihb=>intro s;simp [fl,Tr.size,iha,ihb];omega
theorem t8: ∀st:List Tr,(PB st).length=bY st
 |[]=>rfl
 |t::st=>by simp [PB,bY,t8 st,vT]
theorem dd: ∀st:List Tr,(mn st).length=st.length
 |[]=>rfl
 |t::st=>by simp [mn,dd st]
theorem T8(t:Tr)(s:Nat):(fl t s)[t.size-1]? =some (s:Int):=by
 cases t with
 |lf n=>rfl
 |un n a=>simp only [fl,Tr.size];rw [ur (by rw [vT];omega),vT];simp
 |bi n a b=>simp only [fl,Tr.size];rw [ur (by simp [vT]),jd,vT,vT];simp
theorem EW(t:Tr)(st:List Tr)(rest:List Int):(PB st++fl t (bY st)++rest)[bY st+t.size-1]? =some (bY st:Int):=by
 have:=t.size_pos
 rw [Bx (by rw [jd,t8,vT];omega),ur (by rw [t8];omega),t8,show bY st+t.size-1-bY st=t.size-1 from by omega]
 exact T8 t _
theorem PD: ∀(ns:List aX) (st:List Tr),bY st+ns.length≤100000→kD ns (bY st) (PB st) (mn st)=some (match pq ns st with
   |some st' =>(PB st',decide (st'.length=1)&&decide (bY st' ≤1000))
   |none=>([],false)):=by
 intro ns
 induction ns with
 |nil=>
  intro st _
  simp only [kD,pq,dd,t8]
  congr 2
  congr 1
  ·rw [Ac];simp;omega
  ·rw [Ac];simp;omega
 |cons n ns ih=>
  intro st hs
  simp only [iO]at hs
  have hll:=Gu st
  unfold kD
  rw [y7]
  simp only [be,dd,E4]
  unfold pq
  unfold push
  -- the parts
  cases hk:pk n.Tag with
  |none=>
   have e:HV n.Tag= -1:=by unfold HV;rw [hk]
   simp [e]
  |some k=>
   have e:HV n.Tag=(k:Int):=by unfold HV;rw [hk]
   have hk3:k=0∨k=1∨k=2:=by
    unfold pk at hk
    repeat' split at hk
    all_goals simp at hk
    all_goals omega
   rw [e]
   rcases hk3 with rfl|rfl|rfl
   ·-- none
    simp only []
    have c1:(decide (((0:Nat):Int)<0)||decide ((st.length:Int)<((0:Nat):Int)))=false:=by simp
    simp only [c1,Bt,eQ,be]
    cases hc:IT n with
    |false=>simp
    |true=>
     simp only [mS,gp,ek,uo]
     rw [lG st.length st.length (by rw [cn (by omega) (by omega)];omega) rfl (dK _) (by rw [dd];exact dK _)]
     have hd:(List.take st.length (mn st)).drop st.length=[]:=Dz (by simp;omega)
     simp only [hd,be,lQ]
     by_cases hL:n.L= -1∧n.R= -1
     ·have hb:(n.L== -1&&n.R== -1)=true:=by simp [hL]
      rw [aY hb,aM (by simp [hL.1,hL.2])]
      rw [cq (by simp only [iO,pC,t8];omega)]
      simp only [be]
      rw [lG (i:=0) 0 st.length rfl (by rw [dd,cn (by omega) (by omega)];omega) (lC _) (by rw [dd];exact dK _)]
      rw [rO (by rw [dd];exact dK _),yr]
      simp only [be]
      rw [cq (by simp only [iO,pC,dd];omega)]
      simp only [be]
      have h2:=ih (.lf (g9 n (-1) (-1))::st) (by simp [bY,Tr.size];omega)
      simp only [bY,Tr.size,PB,fl,mn]at h2
      rw [show(((bY st+1:Nat):Int)-1)=(bY st:Int)from by omega]at h2
      exact h2
     ·have hb:(n.L== -1&&n.R== -1)=false:=by
       rw [rA];intro h;apply hL;simpa using h
      rw [hb]
      rw [aY (by
       simp only [CX,FH]
       intro h
       have h1:(-1:Int)=n.L:=by injection h
       have h2:(-1:Int)=n.R:=by injection h with _ h;injection h
       exact hL ⟨h1.symm,h2.symm⟩)]
      simp
   ·-- one
    cases st with
    |nil=>simp
    |cons a st=>
     simp only []
     have c1:(decide (((1:Nat):Int)<0)||decide (((a::st).length:Int)<((1:Nat):Int)))=false:=by simp;omega
     simp only [c1,Bt,eQ,be]
     cases hc:IT n with
     |false=>simp
     |true=>
      simp only [mS,gp,ek,uo]
      simp only [iO]at hll ⊢
      simp only [bY]at hs hll
      have hap:=a.size_pos
      rw [lG st.length (st.length+1) (by rw [cn (by omega) (by omega)];omega) (by omega) (by omega) (by rw [dd];exact dK _)]
      have hd:(List.take (st.length+1) (mn (a::st))).drop st.length=[((bY st+a.size:Nat):Int)-1]:=by
       rw [rO (by rw [dd];exact dK _)]
       simp only [mn]
       rw [Gm (by rw [dd];exact dK _),Dz (by rw [dd];exact dK _),kL]
      rw [hd]
      simp only [be,lQ]
      rw [gT (bY st+a.size-1) (by omega)]
      have hf:=EW a st []
      rw [sG]at hf
      simp only [PB]
      rw [hf]
      simp only [be]
      rw [gT 0 rfl]
      simp only [FI,be]
      have hset:([(-1:Int),-1].set ((0:Nat):Int).toNat (((bY st+a.size:Nat):Int)-1))=[((bY st+a.size:Nat):Int)-1,-1]:=rfl
      rw [hset]
      by_cases hL:n.L=((bY st+a.size:Nat):Int)-1∧n.R= -1
      ·have hb:(n.L==((bY st+a.size:Nat):Int)-1&&n.R== -1)=true:=by simp [hL]
       rw [aY hb,aM (by rw [hL.1,hL.2];simp)]
       rw [cq (by simp only [iO,pC,jd,t8,vT];omega)]
       simp only [be]
       rw [lG (i:=0) 0 st.length rfl (by rw [dd,cn (by simp<;>omega) (by simp<;>omega)];simp) (lC _) (by rw [dd];simp)]
       have ht:(List.take st.length (mn (a::st))).drop 0=mn st:=by
        simp only [mn,yr]
        rw [C0 (by rw [dd];exact dK _),rO (by rw [dd];exact dK _)]
       rw [ht]
       simp only [be]
       rw [cq (by simp only [iO,pC,dd];omega)]
       simp only [be]
       have h2:=ih (.un (g9 n (-1) (-1)) a::st) (by simp [bY,Tr.size];omega)
       simp only [bY,Tr.size,PB,fl,mn]at h2
       rw [show(((bY st+(a.size+1):Nat):Int)-1)=((bY st+a.size:Nat):Int)from by omega]at h2
       have hm:min ((bY (a::st):Nat):Int) (bY st:Int)=(bY st:Int):=by simp only [bY];omega
       rw [hm]
       simp only [jP]at h2 ⊢
       exact h2
      ·have hb:(n.L==((bY st+a.size:Nat):Int)-1&&n.R== -1)=false:=by
        rw [rA];intro h;apply hL;simpa using h
       rw [hb]
       rw [aY (by
        simp only [CX,FH]
        intro h
        have h1:((bY st+a.size:Nat):Int)-1=n.L:=by injection h
        have h2:(-1:Int)=n.R:=by injection h with _ h;injection h
        exact hL ⟨h1.symm,h2.symm⟩)]
       simp
   ·-- two
    cases st with
    |nil=>simp
    |cons b st=>
     cases st with
     |nil=>simp
     |cons a st=>
      simp only []
      have c1:(decide (((2:Nat):Int)<0)||decide (((b::a::st).length:Int)<((2:Nat):Int)))=false:=by simp;omega
      simp only [c1,Bt,eQ,be]
      cases hc:IT n with
      |false=>simp
      |true=>
       simp only [mS,gp,ek,uo]
       simp only [iO]at hll ⊢
       simp only [bY]at hs hll
       have hap:=a.size_pos
       have hbp:=b.size_pos
       rw [lG st.length (st.length+1+1) (by rw [cn (by omega) (by omega)];omega) (by omega) (by omega) (by rw [dd];exact dK _)]
       have hd:(List.take (st.length+1+1) (mn (b::a::st))).drop st.length=[((bY st+a.size:Nat):Int)-1,((bY st+a.size+b.size:Nat):Int)-1]:=by
        rw [rO (by rw [dd];exact dK _)]
        simp only [mn,bY,jP]
        rw [Gm (by rw [dd];exact dK _),Dz (by rw [dd];exact dK _),kL]
        rfl
       rw [hd]
       simp only [be,lQ]
       simp only [PB,bY]
       rw [gT (bY st+a.size-1) (by omega)]
       rw [EW a st (fl b (bY st+a.size))]
       simp only [be]
       rw [gT 0 rfl]
       simp only [FI,be]
       have hset:([(-1:Int),-1].set ((0:Nat):Int).toNat (((bY st+a.size:Nat):Int)-1))=[((bY st+a.size:Nat):Int)-1,-1]:=rfl
       rw [hset]
       rw [gT (bY st+a.size+b.size-1) (by omega)]
       have hf:=EW b (a::st) []
       rw [sG]at hf
       simp only [PB,bY]at hf
       rw [hf]
       simp only [be]
       rw [gT (0+1) rfl]
       simp only [Nn,FI,be]
       have hset2:([((bY st+a.size:Nat):Int)-1,-1].set ((0+1:Nat):Int).toNat (((bY st+a.size+b.size:Nat):Int)-1))=[((bY st+a.size:Nat):Int)-1,((bY st+a.size+b.size:Nat):Int)-1]:=rfl
       rw [hset2]
       by_cases hL:n.L=((bY st+a.size:Nat):Int)-1∧n.R=((bY st+a.size+b.size:Nat):Int)-1
       ·have hb:(n.L==((bY st+a.size:Nat):Int)-1&&n.R==((bY st+a.size+b.size:Nat):Int)-1)=true:=by rw [hL.1,hL.2];simp
        rw [aY hb,aM (by rw [hL.1,hL.2];simp)]
        rw [cq (by simp only [iO,pC,jd,t8,vT];omega)]
        simp only [be]
        rw [lG (i:=0) 0 st.length rfl (by rw [dd,cn (by simp;omega) (by simp;omega)];simp;omega) (lC _) (by rw [dd];simp;omega)]
        have ht:(List.take st.length (mn (b::a::st))).drop 0=mn st:=by
         simp only [mn,yr,jP]
         rw [C0 (by rw [dd];exact dK _),rO (by rw [dd];exact dK _)]
        rw [ht]
        simp only [be]
        rw [cq (by simp only [iO,pC,dd];omega)]
        simp only [be]
        have h2:=ih (.bi (g9 n (-1) (-1)) a b::st) (by simp [bY,Tr.size];omega)
        simp only [bY,Tr.size,PB,fl,mn]at h2
        rw [show(((bY st+(a.size+b.size+1):Nat):Int)-1)=((bY st+a.size+b.size:Nat):Int)from by omega,show bY st+(a.size+b.size+1)=bY st+a.size+b.size+1 from by omega]at h2
        have hm:min (min (((bY st+a.size+b.size:Nat)):Int) (bY st:Int)) ((bY st+a.size:Nat):Int)=(bY st:Int):=by omega
        rw [hm]
        simp only [jP]at h2 ⊢
        exact h2
       ·have hb:(n.L==((bY st+a.size:Nat):Int)-1&&n.R==((bY st+a.size+b.size:Nat):Int)-1)=false:=by
         rw [rA];intro h;apply hL;simpa using h
        rw [hb]
        rw [aY (by
         simp only [CX,FH]
         intro h
         have h1:((bY st+a.size:Nat):Int)-1=n.L:=by injection h
         have h2:((bY st+a.size+b.size:Nat):Int)-1=n.R:=by injection h with _ h;injection h
         exact hL ⟨h1.symm,h2.symm⟩)]
        simp

theorem my{n:Nat}(h:n≤1000000):n≤gX:=by unfold gX;omega
def gQ(ns:List aX):Bool:=(mg ns).isSome
theorem JI{st:List Tr}(h:pq ns []=some st):bY st=ns.length:=by
 have:=(zC h (fun t ht=>by cases ht)).1
 rw [←GP,this];simp [wo]
theorem qV(e:br)(h:e.Nodes.length≤100000):pe e=some (if gQ e.Nodes then 0 else 200):=by
 unfold pe xp gQ mg
 have:=PD e.Nodes [] (by simpa [bY] using h)
 simp only [bY,PB,mn]at this
 rw [this]
 cases hp:pq e.Nodes []with
 |none=>rfl
 |some st=>
  have hsz:=JI hp
  match st,hsz with
  |[],_=>rfl
  |[t],hsz=>
   simp only [be,hsz]
   by_cases hl:e.Nodes.length≤1000<;>simp [hl]
  |t::t2::st,_=>simp
theorem Tf(t:Tr):t.wf→ ∀(P R N:List aX) (fu:Nat),N=P++t.flat P.length++R→t.size≤fu→N.length≤100000→jh fu ⟨N⟩ (((P.length+t.size:Nat):Int)-1)=some (t.size:Int):=by
 induction t with
 |lf n=>
  intro⟨h1,h2,h3,h4⟩ P R N fu hN hf hl
  have hNl:=congrArg List.length hN
  simp only [jd,Tr.flat_len]at hNl
  simp only [Tr.size]at hf hNl ⊢
  obtain⟨fu,rfl⟩: ∃k,fu=k+1:=⟨fu-1,by omega⟩
  unfold jh
  have hx:N[P.length]? =some (g9 n (-1) (-1)):=by
   rw [hN,jP,ur (dK _),ze];rfl
  rw [aM (by simp;omega),gT P.length (by omega),hx]
  have e1:(g9 n (-1) (-1)).Tag=n.Tag:=rfl
  simp only [be]
  rw [e1,pR]
  have e:HV n.Tag=0:=by unfold HV;rw [h1];rfl
  simp only [e,be,jD]
  have e2:IT (g9 n (-1) (-1))=true:=h2
  rw [e2]
  simp [g9]
 |un n a ih=>
  intro⟨⟨h1,h2,h3,h4⟩,ha⟩ P R N fu hN hf hl
  obtain⟨m,hm⟩: ∃m,m=g9 n (((P.length+a.size:Nat):Int)-1) (-1):=⟨_,rfl⟩
  have hNl:=congrArg List.length hN
  simp only [jd,Tr.flat_len]at hNl
  simp only [Tr.size]at hf hNl ⊢
  simp only [Tr.flat,←hm]at hN
  obtain⟨fu,rfl⟩: ∃k,fu=k+1:=⟨fu-1,by omega⟩
  have hpos:=a.size_pos
  have hi:=ih ha P ([m]++R) N fu (by rw [hN];simp only [jP]) (by omega) hl
  unfold jh
  have hx:N[P.length+a.size]? =some m:=by
   rw [hN,jP,jP,←jP P,ur (by simp [a.flat_len])]
   simp [a.flat_len]
  rw [aM (by simp;omega),gT (P.length+a.size) (by omega),hx]
  simp only [be]
  have e1:m.Tag=n.Tag:=by rw [hm];rfl
  rw [e1,pR]
  have e:HV n.Tag=1:=by unfold HV;rw [h1];rfl
  simp only [e,be,jD]
  have e2:IT m=true:=by rw [hm];exact h2
  have eL:m.L=((P.length+a.size:Nat):Int)-1:=by rw [hm];rfl
  have eR:m.R= -1:=by rw [hm];rfl
  rw [cn (n:=((P.length+(a.size+1):Nat):Int)-1-1) (by omega) (by omega),show(((P.length+(a.size+1):Nat):Int)-1-1)=(((P.length+a.size:Nat):Int)-1)from by omega]
  rw [hi]
  simp only [be]
  rw [cn (n:=(a.size:Int)+1) (by omega) (by omega)]
  have n1: ¬a.size=0:=by omega
  simp [e2,eL,eR,n1]
 |bi n a b iha ihb=>
  intro⟨⟨h1,h2,h3,h4⟩,ha,hb⟩ P R N fu hN hf hl
  obtain⟨m,hm⟩: ∃m,m=g9 n (((P.length+a.size:Nat):Int)-1) (((P.length+a.size+b.size:Nat):Int)-1):=⟨_,rfl⟩
  have hNl:=congrArg List.length hN
  simp only [jd,Tr.flat_len]at hNl
  simp only [Tr.size]at hf hNl ⊢
  simp only [Tr.flat,←hm]at hN
  obtain⟨fu,rfl⟩: ∃k,fu=k+1:=⟨fu-1,by omega⟩
  have hap:=a.size_pos
  have hbp:=b.size_pos
  have hi1:=iha ha P (b.flat (P.length+a.size)++[m]++R) N fu (by rw [hN];simp only [jP]) (by omega) hl
  have hi2:=ihb hb (P++a.flat P.length) ([m]++R) N fu (by rw [hN];simp only [jP,jd,a.flat_len]) (by omega) hl
  rw [jd,a.flat_len]at hi2
  unfold jh
  have hx:N[P.length+a.size+b.size]? =some m:=by
   rw [hN,jP,jP,←jP P,ur (by simp [a.flat_len,b.flat_len];omega)]
   have:P.length+a.size+b.size-(P++(a.flat P.length++b.flat (P.length+a.size))).length=0:=by simp [a.flat_len,b.flat_len];omega
   rw [this];rfl
  rw [aM (by simp;omega),gT (P.length+a.size+b.size) (by omega),hx]
  simp only [be]
  have e1:m.Tag=n.Tag:=by rw [hm];rfl
  rw [e1,pR]
  have e:HV n.Tag=2:=by unfold HV;rw [h1];rfl
  simp only [e,be,jD]
  have e2:IT m=true:=by rw [hm];exact h2
  have eL:m.L=((P.length+a.size:Nat):Int)-1:=by rw [hm];rfl
  have eR:m.R=((P.length+a.size+b.size:Nat):Int)-1:=by rw [hm];rfl
  rw [cn (n:=((P.length+(a.size+b.size+1):Nat):Int)-1-1) (by omega) (by omega),show(((P.length+(a.size+b.size+1):Nat):Int)-1-1)=(((P.length+a.size+b.size:Nat):Int)-1)from by omega]
  rw [hi2]
  simp only [be]
  rw [cn (n:=((P.length+a.size+b.size:Nat):Int)-1-(b.size:Int)) (by omega) (by omega),show((P.length+a.size+b.size:Nat):Int)-1-(b.size:Int)=((P.length+a.size:Nat):Int)-1 from by omega]
  rw [hi1]
  simp only [be]
  rw [cn (n:=(a.size:Int)+(b.size:Int)) (by omega) (by omega),cn (n:=(a.size:Int)+(b.size:Int)+1) (by omega) (by omega)]
  have n1: ¬a.size=0:=by omega
  have n2: ¬b.size=0:=by omega
  have e5:(P.length:Int)+(a.size:Int)+(b.size:Int)-1-(b.size:Int)=(P.length:Int)+(a.size:Int)-1:=by omega
  simp [e2,eL,eR,n1,n2,e5]
theorem Tg(N:List aX)(hN:N.length≤100000): ∀(fu q:Nat),q≤N.length→q<fu→ ∃k:Nat,jh fu ⟨N⟩ ((q:Int)-1)=some (k:Int)∧(k=0∨ ∃(t:Tr) (P R:List aX),t.wf∧t.size=k∧N=P++t.flat P.length++R∧P.length+k=q):=by
 intro fu
 induction fu with
 |zero=>intro q _ h;omega
 |succ fu ih=>
  intro q hq hf
  unfold jh
  by_cases h0:q=0
  ·subst h0
   exact⟨0,by rw [aY (by simp)];rfl,.inl rfl⟩
  rw [aM (by simp;omega),gT (q-1) (by omega)]
  have hlt:q-1<N.length:=by omega
  rw [oy hlt]
  obtain⟨n,hn⟩: ∃n,n=N[q-1]:=⟨_,rfl⟩
  rw [←hn]
  have hd:N=N.take (q-1)++([n]++N.drop q):=by
   have h1:=vw (q-1) N
   rw [wG hlt,←hn,show q-1+1=q from by omega]at h1
   exact h1.symm
  simp only [be,pR,jD]
  cases hk:pk n.Tag with
  |none=>
   have e:HV n.Tag= -1:=by unfold HV;rw [hk]
   exact⟨0,by simp [e],.inl rfl⟩
  |some k=>
   have e:HV n.Tag=(k:Int):=by unfold HV;rw [hk]
   have hk3:k=0∨k=1∨k=2:=by
    unfold pk at hk
    repeat' split at hk
    all_goals simp at hk
    all_goals omega
   cases hc:IT n with
   |false=>exact⟨0,by simp [e,hc],.inl rfl⟩
   |true=>
    rcases hk3 with rfl|rfl|rfl
    ·rw [e]
     by_cases hL:n.L= -1∧n.R= -1
     ·refine⟨1,by simp [hL],.inr ⟨.lf (g9 n (-1) (-1)),N.take (q-1),N.drop q,⟨hk,hc,rfl,rfl⟩,rfl,?_,by simp;omega⟩⟩
      simp only [Tr.flat]
      rw [xR hL.1 hL.2,jP]
      exact hd
     ·refine⟨0,?_,.inl rfl⟩
      have:(n.L != -1||n.R != -1)=true:=by
       rw [pH,qo,qo]
       by_cases hl:n.L= -1
       ·exact .inr fun h=>hL ⟨hl,h⟩
       ·exact .inl hl
      simp [this]
    ·rw [e,cn (by omega) (by omega)]
     have e9:(((q-1:Nat):Int)-1)=(q:Int)-1-1:=by omega
     obtain⟨r2,h2,h2'⟩:=ih (q-1) (by omega) (by omega)
     rw [e9]at h2
     rw [h2]
     rcases h2' with rfl|⟨t,P,R,hw,hs,hN2,hl⟩
     ·exact⟨0,by simp,.inl rfl⟩
     ·have hp:=t.size_pos
      by_cases hL:n.L=(q:Int)-1-1∧n.R= -1
      ·refine⟨r2+1,?_,.inr ⟨.un (g9 n (-1) (-1)) t,P,N.drop q,⟨⟨hk,hc,rfl,rfl⟩,hw⟩,by simp only [Tr.size];omega,?_,by omega⟩⟩
       ·simp only [be]
        rw [cn (n:=(r2:Int)+1) (by omega) (by omega)]
        have: ¬(r2=0):=by omega
        simp [hL,this]
       ·simp only [Tr.flat]
        rw [xR (by rw [hL.1];omega) hL.2]
        have ht:N.take (q-1)=P++t.flat P.length:=by
         rw [hN2,C0 (by simp [t.flat_len];omega),rO (by simp [t.flat_len];omega)]
        rw [ht]at hd
        simpa only [jP] using hd
      ·refine⟨0,?_,.inl rfl⟩
       have:(n.L !=(q:Int)-1-1||n.R != -1)=true:=by
        rw [pH,qo,qo]
        by_cases hl:n.L=(q:Int)-1-1
        ·exact .inr fun h=>hL ⟨hl,h⟩
        ·exact .inl hl
       simp [this]
    ·rw [e,cn (n:=(q:Int)-1-1) (by omega) (by omega)]
     have e9:(((q-1:Nat):Int)-1)=(q:Int)-1-1:=by omega
     obtain⟨r2,h2,h2'⟩:=ih (q-1) (by omega) (by omega)
     rw [e9]at h2
     rw [h2]
     rcases h2' with rfl|⟨t,P,R,hw,hs,hN2,hl⟩
     ·exact⟨0,by simp,.inl rfl⟩
     ·have hp:=t.size_pos
      simp only [be]
      rw [cn (n:=(q:Int)-1-1-(r2:Int)) (by omega) (by omega)]
      have e8:(((q-1-r2:Nat):Int)-1)=(q:Int)-1-1-(r2:Int):=by omega
      have n2: ¬(r2=0):=by omega
      obtain⟨r3,h3,h3'⟩:=ih (q-1-r2) (by omega) (by omega)
      rw [e8]at h3
      rw [h3]
      rcases h3' with rfl|⟨t3,P3,R3,hw3,hs3,hN3,hl3⟩
      ·exact⟨0,by simp,.inl rfl⟩
      ·have hp3:=t3.size_pos
       have n3: ¬(r3=0):=by omega
       by_cases hL:n.R=(q:Int)-1-1∧n.L=(q:Int)-1-1-(r2:Int)
       ·refine⟨r3+r2+1,?_,.inr ⟨.bi (g9 n (-1) (-1)) t3 t,P3,N.drop q,⟨⟨hk,hc,rfl,rfl⟩,hw3,hw⟩,by simp only [Tr.size];omega,?_,by omega⟩⟩
        ·simp only [be]
         rw [cn (n:=(r3:Int)+(r2:Int)) (by omega) (by omega),cn (n:=(r3:Int)+(r2:Int)+1) (by omega) (by omega)]
         simp [hL,n2,n3]
        ·simp only [Tr.flat]
         rw [xR (by rw [hL.2];omega) (by rw [hL.1];omega)]
         have ht:N.take (q-1)=P++t.flat P.length:=by
          rw [hN2,C0 (by simp [t.flat_len];omega),rO (by simp [t.flat_len];omega)]
         have hP:P=N.take P.length:=by
          conv=>rhs;rw [hN2,jP,C0 (dK _),rO (dK _)]
         have hP3:P=P3++t3.flat P3.length:=by
          rw [hP]
          have:P.length=P3.length+t3.size:=by omega
          conv=>lhs;rw [this,hN3]
          rw [C0 (by simp [t3.flat_len]),rO (by simp [t3.flat_len])]
         have hPl:P.length=P3.length+t3.size:=by omega
         rw [ht,hPl]at hd
         rw [hP3]at hd
         simpa only [jP] using hd
       ·clear ih hN2 hN3
        refine⟨0,?_,.inl rfl⟩
        have:(n.R !=(q:Int)-1-1||n.L !=(q:Int)-1-1-(r2:Int))=true:=by
         rw [pH,qo,qo]
         by_cases hl:n.R=(q:Int)-1-1
         ·exact .inr fun h=>hL ⟨hl,h⟩
         ·exact .inl hl
        have h' :=this
        rw [pH,qo,qo]at h'
        simp [n2,n3]
        intro h1 h2
        exact absurd h2 (by rcases h' with h' |h';exact absurd h1 h';exact h')
theorem wZ(e:br):tS e=some (gQ e.Nodes):=by
 unfold tS gQ
 by_cases h:1≤e.Nodes.length∧e.Nodes.length≤1000
 ·rw [aY (by simp;omega),cn (by omega) (by omega)]
  unfold Em
  obtain⟨k,h1,h2⟩:=Tg e.Nodes (by omega) gX e.Nodes.length (dK _) (wE (Dx _) (my (by omega)))
  have h1' :jh gX e ((e.Nodes.length:Int)-1)=some (k:Int):=h1
  rw [h1']
  simp only [be]
  congr 1
  rw [Ac]
  constructor
  ·intro hk
   have hk' :k=e.Nodes.length:=by have:=eq_of_beq hk;omega
   rcases h2 with rfl|⟨t,P,R,hw,hs,hN,hl⟩
   ·omega
   ·have hP:P=[]:=sH (by omega)
    subst hP
    have hR:R=[]:=by
     have:=congrArg List.length hN
     simp [t.flat_len]at this
     exact sH (by omega)
    subst hR
    have hN' :e.Nodes=t.flat 0:=by simpa using hN
    rw [hN',Jg hw (by omega)];rfl
  ·intro hi
   cases ht:mg e.Nodes with
   |none=>rw [ht]at hi;cases hi
   |some t=>
    obtain⟨hw,hN,hs⟩:=jX ht
    have hlen:e.Nodes.length=t.size:=by rw [hN,t.flat_len]
    have h3:=Tf t hw [] [] e.Nodes gX (by simpa using hN) (my (by omega)) (by omega)
    simp only [pC,uD]at h3
    rw [←hlen]at h3
    have h4:some (k:Int)=some (e.Nodes.length:Int):=h1.symm.trans h3
    simpa using h4
 ·rw [aM (by simp;omega)]
  simp only [be]
  congr 1
  symm
  rw [rA]
  intro hi
  cases ht:mg e.Nodes with
  |none=>rw [ht]at hi;cases hi
  |some t=>
   obtain⟨hw,hN,hs⟩:=jX ht
   have hlen:e.Nodes.length=t.size:=by rw [hN,t.flat_len]
   have:=t.size_pos
   omega
theorem Ej(h:gQ ns=true):1≤ns.length∧ns.length≤1000:=by
 unfold gQ at h
 cases ht:mg ns with
 |none=>rw [ht]at h;cases h
 |some t=>
  obtain⟨hw,hN,hs⟩:=jX ht
  have hlen:ns.length=t.size:=by rw [hN,t.flat_len]
  have:=t.size_pos
  omega

theorem KJ(p:List Int)(hp:p.length≤8000)(i:Nat)(y:List Int)(hy:i+y.length=p.length): ∀(k i1:Nat) (x:List Int) (x1:Nat),i1+k=y.length→0<i1→x.length=p.length→x1+1≤i+i1→x.drop (i+i1-1)=p.drop (i+i1-1)→
  dX i y k i1 x (x1:Int)=some (x.take x1++tm ((p[i+i1-1]?).getD 0) (p.drop (i+i1))):=by
 intro k
 induction k with
 |zero=>
  intro i1 x x1 h1 h0 hx h2 h3
  simp only [dX]
  have hx1:x1≤x.length:=by omega
  rw [lF hx1 (dK _)]
  simp only [be,wL,Af]
  rw [show((0:Int))=((0:Nat):Int)from rfl,lF (lC _) (by simp;omega)]
  simp only [be,yr]
  have hn:p.drop (i+i1)=[]:=CZ (by omega)
  rw [hn,Bd,sG,C0 (by simp;omega),Bs,Nat.min_self]
 |succ k ih=>
  intro i1 x x1 h1 h0 hx h2 h3
  have e1:x[i+i1]? =p[i+i1]? :=by
   have:=congrArg (fun l:List Int=>l[1]?) h3
   simp only [wF]at this
   rwa [show i+i1-1+1=i+i1 from by omega]at this
  have e0:x[i+i1-1]? =p[i+i1-1]? :=by
   have:=congrArg (fun l:List Int=>l[0]?) h3
   simpa only [wF,yq] using this
  have hlt:i+i1<p.length:=by omega
  have g1:xj x (i:Int) y.length (i1:Int)=some p[i+i1]:=by
   unfold xj
   rw [aY (by omega),show(i:Int)+(i1:Int)=((i+i1:Nat):Int)from by omega,bZ,e1,oy hlt]
  have g0:xj x (i:Int) y.length (IntKind.i64.wrap ((i1:Int)-1))=some p[i+i1-1]:=by
   rw [cn (by omega) (by omega)]
   unfold xj
   rw [aY (by omega),show(i:Int)+((i1:Int)-1)=((i+i1-1:Nat):Int)from by omega,bZ,e0,oy (by omega)]
  have hd:p.drop (i+i1)=p[i+i1]::p.drop (i+i1+1):=wG hlt
  have hp1:(p[i+i1-1]?).getD 0=p[i+i1-1]:=by rw [oy (by omega)];rfl
  simp only [dX,g1,g0,be]
  rw [hd,hp1]
  by_cases hx2:p[i+i1]=p[i+i1-1]
  ·rw [aM (by simp [hx2])]
   have h3' :x.drop (i+(i1+1)-1)=p.drop (i+(i1+1)-1):=by
    have:=congrArg (List.drop 1) h3
    rwa [qi,qi,show i+i1-1+1=i+(i1+1)-1 from by omega]at this
   rw [ih (i1+1) x x1 (by omega) (by omega) hx (by omega) h3']
   rw [yf hx2,show i+(i1+1)-1=i+i1 from by omega,oy hlt,show i+(i1+1)=i+i1+1 from by omega]
   rfl
  ·rw [aY (by simp [hx2]),bZ,oy (by omega)]
   simp only [be,Af]
   rw [cn (by omega) (by omega),show((x1:Int)+1)=((x1+1:Nat):Int)from by omega]
   have h3' :(x.set x1 p[i+i1]).drop (i+(i1+1)-1)=p.drop (i+(i1+1)-1):=by
    rw [List.drop_set_of_lt (by omega)]
    have:=congrArg (List.drop 1) h3
    rwa [qi,qi,show i+i1-1+1=i+(i1+1)-1 from by omega]at this
   rw [ih (i1+1) _ (x1+1) (by omega) (by omega) (by simpa using hx) (by omega) h3']
   rw [Du hx2,show i+(i1+1)-1=i+i1 from by omega,oy hlt,show i+(i1+1)=i+i1+1 from by omega]
   have ht:(x.set x1 p[i+i1]).take (x1+1)=x.take x1++[p[i+i1]]:=by
    rw [I5 (by simp;omega),List.take_set_of_le (by omega)]
    simp
   rw [ht]
   simp
theorem KK(p:List Int)(hp:p.length≤8000):jR p=some (ui p):=by
 unfold jR
 by_cases h2:p.length<2
 ·rw [aY (by simp;omega)]
  match p,h2 with
  |[],_=>rfl
  |[x],_=>rfl
 ·rw [aM (by simp;omega)]
  have key: ∀(l:List Int) (i:Nat),p.drop i=l→0<i→i≤p.length→ui p=p.take i++tm ((p[i-1]?).getD 0) (p.drop i)→eP p l i=some (ui p):=by
   intro l
   induction l with
   |nil=>
    intro i h1 h0 hle h3
    have:=Hm.1 h1
    simp only [eP]
    rw [h3,h1,rO (by omega),Bd,sG]
   |cons x t ih=>
    intro i h1 h0 hle h3
    have hi:i<p.length:=by
     rcases nm i p.length with h|h
     ·exact h
     ·rw [CZ h]at h1;cases h1
    have hx:x=p[i]:=by rw [wG hi]at h1;exact(F9 h1).1.symm
    have ht:p.drop (i+1)=t:=by rw [←qi,h1];rfl
    have hp1:(p[i-1]?).getD 0=p[i-1]:=by rw [oy (by omega)];rfl
    simp only [eP]
    rw [cn (by omega) (by omega),show(i:Int)-1=((i-1:Nat):Int)from by omega,bZ,oy (by omega)]
    simp only [be]
    by_cases he:x=p[i-1]
    ·rw [aY (by simp [he])]
     rw [lF hle (dK _)]
     simp only [be,wL]
     rw [KJ p hp i (p.drop i) (by simp;omega) _ 1 p i (by simp;omega) (by omega) rfl (by omega) (by simp)]
     rw [h3,h1,hp1,yf he,←ht,hx]
     rw [show i+1-1=i from by omega,oy hi];rfl
    ·rw [aM (by simp [he])]
     refine ih (i+1) ht (by omega) (by omega) ?_
     rw [h3,h1,hp1,Du he,I5 hi,←ht,hx,show i+1-1=i from by omega,oy hi]
     rw [jP];rfl
  have hpc:p=p[0]::p.drop 1:=by
   have:=wG (l:=p) (i:=0) (by omega)
   simpa using this
  refine key (p.drop 1) 1 rfl (by omega) (by omega) ?_
  have e:(p[1-1]?).getD 0=p[0]:=by simp [oy (show 0<p.length by omega)]
  rw [e]
  conv=>lhs;rw [hpc]
  have e2:p.take 1=[p[0]]:=by
   conv=>lhs;rw [hpc]
   rfl
  rw [e2];rfl

theorem Ps(l:List Int)(z:Int):z∈sortI l↔z∈l:=by unfold sortI;simp
theorem z8: ∀(ns:List aX) (out:List Int),out.length+ns.length≤8000→ ∃cs,mH ns out=some cs∧ ∀c,c∈cs↔c∈out∨ ∃n∈ns,n.Tag=2∧n.Col=c
 |[],out,h=>by
  unfold mH D0
  rw [aY (by simp at h;omega)]
  simp only [be]
  rw [KK _ (by rw [BF];simpa using h)]
  exact⟨_,rfl,fun c=>by rw [xW,Ps];simp⟩
 |n::ns,out,h=>by
  simp only [iO]at h
  unfold mH
  by_cases ht:n.Tag=2
  ·rw [aY (by simp [ht]),cq (by simp;omega)]
   simp only [be]
   obtain⟨cs,h1,h2⟩:=z8 ns (out++[n.Col]) (by simp;omega)
   exact⟨cs,h1,fun c=>by rw [h2];simp [ht,or_assoc,eq_comm]⟩
  ·rw [aM (by simp [ht])]
   obtain⟨cs,h1,h2⟩:=z8 ns out (by omega)
   exact⟨cs,h1,fun c=>by rw [h2];simp [ht]⟩
theorem A4(e:br)(h:gQ e.Nodes=true): ∃cs,sD e=some cs∧ ∀c,c∈cs↔ ∃n∈e.Nodes,n.Tag=2∧n.Col=c:=by
 have hl:=Ej h
 unfold sD
 rw [qV e (by omega),h]
 obtain⟨cs,h1,h2⟩:=z8 e.Nodes [] (by simp;omega)
 exact⟨cs,by simpa using h1,fun c=>by rw [h2];simp⟩
def kn(tag l r:Int):Int×Bool:=(iY tag l r).getD (0,false)
theorem yZ(tag l r:Int):iY tag l r=some (kn tag l r):=by
 unfold kn iY iq
 simp only [be]
 repeat' split
 all_goals simp
def k4(k:Int):Prop:=k=0∨k=1∨k=2∨k=3
theorem Wh(tag l r:Int):k4 (kn tag l r).1:=by
 unfold kn iY iq
 simp only [be]
 repeat' split
 all_goals simp [k4]
variable{kinds:List Int}
theorem Ng(kinds:List Int)(n:aX)(x:Int)(hx:k4 x)(hk:pk n.Tag=some 1):jt kinds n [x]=some (if(kn n.Tag x 0).2 then((kn n.Tag x 0).1,0)else(0,201)):=by
 obtain⟨tag,L,R,col,v⟩:=n
 have ht:tag=4∨tag=5∨tag=6∨tag=7:=by
  unfold pk at hk
  repeat' split at hk
  all_goals simp at hk
  rename_i h
  have h:4≤tag∧tag≤7:=h
  omega
 rcases ht with rfl|rfl|rfl|rfl<;>rcases hx with rfl|rfl|rfl|rfl<;>rfl
theorem Nf(kinds:List Int)(n:aX)(x y:Int)(hx:k4 x)(hy:k4 y)(hk:pk n.Tag=some 2):jt kinds n [x,y]=some (if(kn n.Tag x y).2 then((kn n.Tag x y).1,0)else(0,201)):=by
 obtain⟨tag,L,R,col,v⟩:=n
 have ht:tag=12∨tag=13∨tag=14∨tag=15∨tag=16∨tag=17∨tag=18∨tag=19∨tag=20∨tag=21∨tag=22∨tag=23:=by
  unfold pk at hk
  repeat' split at hk
  all_goals simp at hk
  rename_i h
  have h:12≤tag∧tag≤23:=h
  omega
 rcases ht with rfl|rfl|rfl|rfl|rfl|rfl|rfl|rfl|rfl|rfl|rfl|rfl<;>rcases hx with rfl|rfl|rfl|rfl<;>rcases hy with rfl|rfl|rfl|rfl<;>rfl
def kd(kinds:List Int):Tr→Option Int
 | .lf n=>if n.Tag=1 then some n.Value.Kind else some ((kinds[n.Col.toNat]?).getD 0)
 | .un n a=>(kd kinds a).bind fun x=>if(kn n.Tag x 0).2 then some (kn n.Tag x 0).1 else none
 | .bi n a b=>(kd kinds a).bind fun x=>(kd kinds b).bind fun y=>if(kn n.Tag x y).2 then some (kn n.Tag x y).1 else none
theorem NU(kinds:List Int)(n:aX)(a:Tr):kd kinds (.un n a)=(kd kinds a).bind fun x=>if(kn n.Tag x 0).2 then some (kn n.Tag x 0).1 else none:=rfl
theorem Ko(kinds:List Int)(n:aX)(a b:Tr):kd kinds (.bi n a b)=(kd kinds a).bind fun x=>(kd kinds b).bind fun y=>if(kn n.Tag x y).2 then some (kn n.Tag x y).1 else none:=rfl
def CP(m:Nat):Tr→Prop
 | .lf n=>n.Tag=2→n.Col<m
 | .un _ a=>CP m a
 | .bi _ a b=>CP m a∧CP m b
theorem YQ(h:pk tag=some 0):tag=1∨tag=2:=by
 unfold pk at h
 repeat' split at h
 all_goals simp at h
 assumption
theorem pk2(h:pk tag=some k)(ht:tag=2):k=0:=by subst ht;simp [pk]at h;exact h.symm
theorem Z2(h:IT n=true)(ht:n.Tag=1):mw n.Value=true:=by
 have h2:=jD n
 rw [h]at h2
 unfold mt at h2
 rw [aY (by simp [ht]),jo]at h2
 simp at h2
 exact h2.1
theorem MO(h:IT n=true)(ht:n.Tag=2):0≤n.Col∧n.Col<16:=by
 have h2:=jD n
 rw [h]at h2
 unfold mt at h2
 rw [aM (by simp [ht]),aY (by simp [ht])]at h2
 simp at h2
 exact⟨h2.1.2,h2.2⟩
theorem NV(hk: ∀k∈kinds,k4 k): ∀(t:Tr),t.wf→ ∀{k},kd kinds t=some k→k4 k
 | .lf n,⟨h1,h2,_,_⟩,k,h=>by
  unfold kd at h
  split at h
  ·rename_i ht
   have:=JG (Z2 h2 ht)
   cases h;unfold k4;omega
  ·injection h with h
   subst h
   cases hc:kinds[n.Col.toNat]? with
   |none=>exact .inl rfl
   |some z=>exact hk z (rC hc)
 | .un n a,_,k,h=>by
  unfold kd at h
  cases ha:kd kinds a with
  |none=>rw [ha]at h;cases h
  |some x=>
   rw [ha,be]at h
   split at h
   ·cases h;exact Wh ..
   ·cases h
 | .bi n a b,_,k,h=>by
  unfold kd at h
  cases ha:kd kinds a with
  |none=>rw [ha]at h;cases h
  |some x=>
   cases hb:kd kinds b with
   |none=>rw [ha,hb]at h;cases h
   |some y=>
    rw [ha,hb]at h
    simp only [be]at h
    split at h
    ·cases h;exact Wh ..
    ·cases h
theorem Mb(stack l:List Int)(h:stack.length+l.length≤100000):oR (stack++l) (l.length:Int)=some (l,stack):=by
 unfold oR cu
 have e:IntKind.i64.wrap (((stack++l).length:Int)-(l.length:Int))=(stack.length:Int):=by
  rw [jd,cn (by omega) (by omega)];omega
 rw [e,lG stack.length (stack++l).length rfl rfl (by simp) (dK _)]
 simp only [be,wL,Gm (dK _),List.drop_length,kL]
 rw [cq (by simp;omega)]
 simp only [be,kL]
 rw [lG (i:=0) 0 stack.length rfl rfl (lC _) (by simp)]
 simp
theorem JL(stack:List Int){b:Int}(h:b≠0):lP b stack=some (0,b):=by
 unfold lP;rw [aY (by simpa using h)]
theorem nj(h:pk tag=some k):pc tag=some (k:Int):=by
 rw [y7];unfold HV;rw [h]
theorem Pk(kinds:List Int)(hk: ∀k∈kinds,k4 k)(t:Tr):t.wf→CP kinds.length t→ ∀(s:Nat) (rest:List aX) (stack:List Int),stack.length+t.size≤50000→
  hU (jt kinds) (t.flat s++rest) 0 stack=match kd kinds t with
   |some k=>hU (jt kinds) rest 0 (stack++[k])
   |none=>some (0,201):=by
 induction t with
 |lf n=>
  intro⟨h1,h2,h3,h4⟩ hc s rest stack hl
  simp only [Tr.flat,Tr.size,wC,kL]at hl ⊢
  rw [hU]
  have e1:(g9 n (-1) (-1)).Tag=n.Tag:=rfl
  rw [e1,nj h1]
  have h0:=Mb stack [] (by simp;omega)
  simp only [sG,pC]at h0
  simp only [be]
  rw [h0]
  simp only [be]
  have hv:jt kinds (g9 n (-1) (-1)) []=(kd kinds (.lf n)).map (fun k=>(k,(0:Int))):=by
   unfold jt lR kd
   simp only [e1]
   rcases YQ h1 with ht|ht
   ·rw [aY (by simp [ht]),aY ht];rfl
   ·rw [aM (by simp [ht]),aY (by simp [ht]),aM (by simp [ht])]
    have hb:=MO h2 ht
    have hm:n.Col<kinds.length:=hc ht
    have e2:(g9 n (-1) (-1)).Col=n.Col:=rfl
    rw [e2,gT n.Col.toNat (by omega),oy (by omega)]
    rfl
  rw [hv]
  have: ∃k,kd kinds (.lf n)=some k:=by unfold kd;split<;>exact⟨_,rfl⟩
  obtain⟨k,hk1⟩:=this
  rw [hk1]
  simp only [Option.map_some,be]
  rw [aM (by simp),cq (by simp;omega)]
  rfl
 |un n a ih=>
  intro⟨⟨h1,h2,h3,h4⟩,ha⟩ hc s rest stack hl
  simp only [Tr.flat,Tr.size,jP]at hl ⊢
  rw [NU,ih ha hc s _ stack (by omega)]
  cases hx:kd kinds a with
  |none=>rfl
  |some x=>
   have hx4:=NV hk a ha hx
   simp only [be,wC,kL]
   rw [hU]
   have e1:(g9 n (((s+a.size:Nat):Int)-1) (-1)).Tag=n.Tag:=rfl
   rw [e1,nj h1]
   have h0:=Mb stack [x] (by simp;omega)
   simp only [be]
   have e0:(([x]:List Int).length:Int)=((1:Nat):Int):=rfl
   rw [←e0,h0]
   simp only [be]
   rw [Ng kinds _ x hx4 (by rw [e1];exact h1),e1]
   cases hb:(kn n.Tag x 0).2 with
   |true=>
    simp only [eQ,be]
    rw [aM (by simp),cq (by simp;omega)]
    rfl
   |false=>
    simp only [gp,ek,be]
    rw [aY (by decide),JL _ (by decide)]
 |bi n a b iha ihb=>
  intro⟨⟨h1,h2,h3,h4⟩,ha,hb⟩ ⟨hca,hcb⟩ s rest stack hl
  simp only [Tr.flat,Tr.size,jP]at hl ⊢
  rw [Ko,iha ha hca s _ stack (by omega)]
  cases hx:kd kinds a with
  |none=>rfl
  |some x=>
   have hx4:=NV hk a ha hx
   simp only [be]
   rw [ihb hb hcb (s+a.size) _ (stack++[x]) (by have:=a.size_pos;simp;omega)]
   cases hy:kd kinds b with
   |none=>rfl
   |some y=>
    have hy4:=NV hk b hb hy
    have hap:=a.size_pos
    simp only [be,wC,kL]
    rw [hU]
    have e1:(g9 n (((s+a.size:Nat):Int)-1) (((s+a.size+b.size:Nat):Int)-1)).Tag=n.Tag:=rfl
    rw [e1,nj h1]
    have h0:=Mb stack [x,y] (by simp;omega)
    simp only [be]
    have e0:(([x,y]:List Int).length:Int)=((2:Nat):Int):=rfl
    have e9:stack++[x]++[y]=stack++[x,y]:=by simp
    rw [←e0,e9,h0]
    simp only [be]
    rw [Nf kinds _ x y hx4 hy4 (by rw [e1];exact h1),e1]
    cases hb:(kn n.Tag x y).2 with
    |true=>
     simp only [eQ,be]
     rw [aM (by simp),cq (by simp;omega)]
     rfl
    |false=>
     simp only [gp,ek,be]
     rw [aY (by decide),JL _ (by decide)]
theorem QO(kinds:List Int)(hk: ∀k∈kinds,k4 k)(t:Tr):t.wf→CP kinds.length t→ ∀(rest:List aX) (own:List Int),own.length+t.size≤50000→
  (kd kinds t=none∧dm kinds (t.flat own.length++rest) own=some (0,201))∨
  (∃k w,kd kinds t=some k∧w.length+1=t.size∧dm kinds (t.flat own.length++rest) own=dm kinds rest (own++w++[k])):=by
 induction t with
 |lf n=>
  intro⟨h1,h2,h3,h4⟩ hc rest own hl
  simp only [Tr.flat,Tr.size,wC,kL]at hl ⊢
  refine .inr ?_
  have e1:(g9 n (-1) (-1)).Tag=n.Tag:=rfl
  unfold kd
  rcases YQ h1 with ht|ht
  ·refine⟨_,[],aY ht,rfl,?_⟩
   rw [dm]
   rw [e1,aY (by simp [ht]),cq (by simp;omega)]
   simp only [be,sG]
   rfl
  ·refine⟨_,[],aM (by simp [ht]),rfl,?_⟩
   have hb:=MO h2 ht
   have hm:n.Col<kinds.length:=hc ht
   have e2:(g9 n (-1) (-1)).Col=n.Col:=rfl
   rw [dm]
   rw [e1,aM (by simp [ht]),aY (by simp [ht]),e2,gT n.Col.toNat (by omega),oy (by omega)]
   simp only [be,sG,Ge]
   rw [cq (by simp;omega)]
   rfl
 |un n a ih=>
  intro⟨⟨h1,h2,h3,h4⟩,ha⟩ hc rest own hl
  have hap:=a.size_pos
  simp only [Tr.flat,Tr.size,jP]at hl ⊢
  rcases ih ha hc ([g9 n (((own.length+a.size:Nat):Int)-1) (-1)]++rest) own (by omega)with⟨hx,he⟩|⟨x,w,hx,hw,he⟩
  ·exact .inl ⟨by rw [NU,hx];rfl,by rw [he]⟩
  ·rw [he]
   rw [NU,hx]
   simp only [be,wC,kL]
   have e1:(g9 n (((own.length+a.size:Nat):Int)-1) (-1)).Tag=n.Tag:=rfl
   have n1:n.Tag≠1:=fun h=>by rw [h]at h1;simp [pk]at h1
   have n2:n.Tag≠2:=fun h=>by rw [h]at h1;simp [pk]at h1
   have hstep:dm kinds (g9 n (((own.length+a.size:Nat):Int)-1) (-1)::rest) (own++w++[x])=if(kn n.Tag x 0).2 then dm kinds rest (own++w++[x]++[(kn n.Tag x 0).1])else some (0,201):=by
    rw [dm]
    rw [e1,aM (by simpa using n1),aM (by simpa using n2)]
    have eL:(g9 n (((own.length+a.size:Nat):Int)-1) (-1)).L=((own.length+a.size:Nat):Int)-1:=rfl
    have eR:(g9 n (((own.length+a.size:Nat):Int)-1) (-1)).R= -1:=rfl
    rw [eL,eR,gT (own++w).length (by simp;omega),ur (dK _),ze]
    simp only [FI,be]
    rw [aM (by decide)]
    unfold qQ
    rw [e1,yZ]
    simp only [be]
    cases hb:(kn n.Tag x 0).2 with
    |true=>
     simp only [mS,gp,ek,eQ]
     rw [cq (by simp;omega)];rfl
    |false=>rfl
   rw [hstep]
   cases hb:(kn n.Tag x 0).2 with
   |true=>exact .inr ⟨(kn n.Tag x 0).1,w++[x],by simp,by simp;omega,by simp⟩
   |false=>exact .inl ⟨by simp,by simp⟩
 |bi n a b iha ihb=>
  intro⟨⟨h1,h2,h3,h4⟩,ha,hb⟩ ⟨hca,hcb⟩ rest own hl
  have hap:=a.size_pos
  have hbp:=b.size_pos
  simp only [Tr.flat,Tr.size,jP]at hl ⊢
  obtain⟨m,hm⟩: ∃m,m=g9 n (((own.length+a.size:Nat):Int)-1) (((own.length+a.size+b.size:Nat):Int)-1):=⟨_,rfl⟩
  rw [←hm]
  rcases iha ha hca (b.flat (own.length+a.size)++([m]++rest)) own (by omega)with⟨hx,he⟩|⟨x,w,hx,hw,he⟩
  ·exact .inl ⟨by rw [Ko,hx];rfl,by rw [he]⟩
  ·rw [he]
   have hl2:(own++w++[x]).length=own.length+a.size:=by simp;omega
   rw [←hl2]
   rcases ihb hb hcb ([m]++rest) (own++w++[x]) (by rw [hl2];omega)with⟨hy,he2⟩|⟨y,w2,hy,hw2,he2⟩
   ·exact .inl ⟨by rw [Ko,hx,hy];rfl,by rw [he2]⟩
   ·rw [he2]
    rw [Ko,hx,hy]
    simp only [be,wC,kL]
    have e1:m.Tag=n.Tag:=by rw [hm];rfl
    have eL:m.L=((own.length+a.size:Nat):Int)-1:=by rw [hm];rfl
    have eR:m.R=((own.length+a.size+b.size:Nat):Int)-1:=by rw [hm];rfl
    have n1:n.Tag≠1:=fun h=>by rw [h]at h1;simp [pk]at h1
    have n2:n.Tag≠2:=fun h=>by rw [h]at h1;simp [pk]at h1
    have hstep:dm kinds (m::rest) (own++w++[x]++w2++[y])=if(kn n.Tag x y).2 then dm kinds rest (own++w++[x]++w2++[y]++[(kn n.Tag x y).1])else some (0,201):=by
     rw [dm]
     rw [e1,aM (by simpa using n1),aM (by simpa using n2)]
     rw [eL,eR,gT (own++w).length (by simp;omega)]
     have g1:(own++w++[x]++w2++[y])[(own++w).length]? =some x:=by
      rw [jP,jP,ur (dK _),ze];rfl
     rw [g1]
     simp only [be]
     rw [aY (by rw [kO];omega),gT (own++w++[x]++w2).length (by simp;omega)]
     have g2:(own++w++[x]++w2++[y])[(own++w++[x]++w2).length]? =some y:=by
      rw [ur (dK _),ze];rfl
     rw [g2]
     simp only [be]
     unfold qQ
     rw [e1,yZ]
     simp only [be]
     cases hb:(kn n.Tag x y).2 with
     |true=>
      simp only [mS,gp,ek,eQ]
      rw [cq (by simp;omega)];rfl
     |false=>rfl
    rw [hstep]
    cases hb:(kn n.Tag x y).2 with
    |true=>exact .inr ⟨(kn n.Tag x y).1,w++[x]++w2++[y],by simp,by simp;omega,by simp⟩
    |false=>exact .inl ⟨by simp,by simp⟩
def qI(m:Nat)(ns:List aX):Bool:=ns.all fun n=> !((n.Tag==2)&&decide ((m:Int)≤n.Col))
theorem KL(m:Nat)(n:aX)(ns:List aX):qI m (n::ns)=(!((n.Tag==2)&&decide ((m:Int)≤n.Col))&&qI m ns):=rfl
theorem xz(m:Nat)(t:Tr):t.wf→ ∀s,qI m (t.flat s)=true→CP m t:=by
 induction t with
 |lf n=>
  intro _ s h ht
  simp only [qI,Tr.flat,Ab,List.all_nil,yM]at h
  have e1:(g9 n (-1) (-1)).Tag=n.Tag:=rfl
  have e2:(g9 n (-1) (-1)).Col=n.Col:=rfl
  simp [e1,e2,ht]at h
  exact h
 |un n a ih=>
  intro⟨_,ha⟩ s h
  simp only [qI,Tr.flat,List.all_append,kN]at h
  exact ih ha s h.1
 |bi n a b iha ihb=>
  intro⟨_,ha,hb⟩ s h
  simp only [qI,Tr.flat,List.all_append,kN]at h
  exact⟨iha ha s h.1.1,ihb hb _ h.1.2⟩
def yD(kinds:List Int):Bool:=kinds.all fun k=>decide (0≤k)&&decide (k≤3)
theorem AQ(k:Int)(ks:List Int):yD (k::ks)=((decide (0≤k)&&decide (k≤3))&&yD ks):=rfl
theorem xY(h:yD kinds=true){k:Int}(hk:k∈kinds):k4 k:=by
 have:=jO.1 h k hk
 simp at this
 unfold k4;omega
def fb(e:br)(kinds:List Int):Int×Int:=
 if gQ e.Nodes then if yD kinds then if qI kinds.length e.Nodes then match (mg e.Nodes).bind (kd kinds)with
  |some k=>(k,0)
  |none=>(0,201)else(0,2)else(0,2)else(0,200)
theorem Ft(e:br)(kinds:List Int): ∀cs:List Int,mG e kinds cs=if cs.all (fun c=>decide (c<(kinds.length:Int)))then oI e (jt kinds)else some (0,2)
 |[]=>by
  unfold mG
  cases oI e (jt kinds)<;>rfl
 |c::cs=>by
  unfold mG
  rw [Ft e kinds cs]
  by_cases h:(kinds.length:Int)≤c
  ·rw [aY (by simpa using h),aM (by simp;omega)]
  ·rw [aM (by simpa using h)]
   have:c<(kinds.length:Int):=by omega
   simp [this]
theorem vV(e:br)(kinds:List Int)(hl:e.Nodes.length≤50000):sy e kinds=some (fb e kinds):=by
 unfold sy fb
 rw [qV e (by omega)]
 cases hr:gQ e.Nodes with
 |false=>rfl
 |true=>
  simp only [eQ,be]
  rw [aM (by decide)]
  have key: ∀ks:List Int,p9 e kinds ks=if yD ks then(sD e).bind (mG e kinds)else some (0,2):=by
   intro ks
   induction ks with
   |nil=>rfl
   |cons k ks ih=>
    unfold p9
    rw [ih]
    by_cases h:k<0∨3<k
    ·rw [aY (by simpa using h),aM (by simp [yD];omega)]
    ·rw [aM (by simpa using h)]
     have h1:(decide (0≤k)&&decide (k≤3))=true:=by simp;omega
     rw [AQ,h1,uo]
  rw [key]
  cases hk:yD kinds with
  |false=>rfl
  |true=>
   simp only [eQ]
   obtain⟨cs,h1,h2⟩:=A4 e hr
   rw [h1,be,Ft]
   have hci:cs.all (fun c=>decide (c<(kinds.length:Int)))=qI kinds.length e.Nodes:=by
    rw [Ac]
    simp only [jO,kO,qI,CX,Bool.and_eq_false_iff,beq_eq_false_iff_ne,FH]
    constructor
    ·intro h n hn
     by_cases ht:n.Tag=2
     ·exact .inr (by have:=h _ ((h2 n.Col).2 ⟨n,hn,ht,rfl⟩);omega)
     ·exact .inl ht
    ·intro h c hc
     obtain⟨n,hn,ht,rfl⟩:=(h2 c).1 hc
     rcases h n hn with h|h
     ·exact absurd ht h
     ·omega
   rw [hci]
   cases hc:qI kinds.length e.Nodes with
   |false=>rfl
   |true=>
    simp only [eQ]
    cases ht:mg e.Nodes with
    |none=>unfold gQ at hr;rw [ht]at hr;cases hr
    |some t=>
     obtain⟨hw,hN,hs⟩:=jX ht
     have hct:=xz kinds.length t hw 0 (by rw [←hN];exact hc)
     have:=Pk kinds (fun k=>xY hk) t hw hct 0 [] [] (by simp;omega)
     rw [sG,←hN]at this
     unfold oI
     rw [this]
     simp only [be]
     cases kd kinds t with
     |none=>rfl
     |some k=>rfl
theorem j3(e:br)(kinds:List Int):sU e kinds=some (fb e kinds):=by
 unfold sU fb
 rw [wZ e]
 cases hr:gQ e.Nodes with
 |false=>rfl
 |true=>
  simp only [eQ,be,mS,gp,ek]
  have key2: ∀ns:List aX,oC e kinds ns=if qI kinds.length ns then dm kinds e.Nodes []else some (0,2):=by
   intro ns
   induction ns with
   |nil=>rfl
   |cons n ns ih=>
    unfold oC
    rw [ih,KL]
    cases ((n.Tag==2)&&decide ((kinds.length:Int)≤n.Col))<;>simp
  have key: ∀ks:List Int,qP e kinds ks=if yD ks then oC e kinds e.Nodes else some (0,2):=by
   intro ks
   induction ks with
   |nil=>rfl
   |cons k ks ih=>
    unfold qP
    rw [ih]
    by_cases h:k<0∨3<k
    ·rw [aY (by simpa using h),aM (by simp [yD];omega)]
    ·rw [aM (by simpa using h)]
     have h1:(decide (0≤k)&&decide (k≤3))=true:=by simp;omega
     rw [AQ,h1,uo]
  rw [key,key2]
  cases hk:yD kinds with
  |false=>rfl
  |true=>
   cases hc:qI kinds.length e.Nodes with
   |false=>rfl
   |true=>
    simp only [eQ]
    cases ht:mg e.Nodes with
    |none=>unfold gQ at hr;rw [ht]at hr;cases hr
    |some t=>
     obtain⟨hw,hN,hs⟩:=jX ht
     have hct:=xz kinds.length t hw 0 (by rw [←hN];exact hc)
     have:=QO kinds (fun k=>xY hk) t hw hct [] [] (by simp;omega)
     rw [sG,pC,←hN]at this
     simp only [be]
     rcases this with⟨h1,h2⟩|⟨k,w,h1,h2,h3⟩
     ·rw [h1,h2]
     ·rw [h1,h3]
      unfold dm
      have hls:t.size≤1000:=hs
      rw [kL,gT w.length (by rw [cn (by simp<;>omega) (by simp<;>omega)];simp),ur (dK _),ze]
      rfl
def WO(n:aX):Bool:=n.Tag==4||decide (12≤n.Tag)&&decide (n.Tag≤15)

def zV:ac:=⟨0,0,0,[]⟩
def bV(b:Bool):ac:=⟨1,if b then 1 else 0,0,[]⟩
def iV(n:Int):ac:=⟨2,n,0,[]⟩
def sV(s:wB):ac:=⟨3,0,0,s⟩
def r64(n:Int):Prop:= -9223372036854775808≤n∧n≤9223372036854775807
inductive Pl:ac→Prop
 |z:Pl zV
 |b (b:Bool):Pl (bV b)
 |i (n:Int) (h:r64 n):Pl (iV n)
 |s (s:wB) (h:s.length≤40):Pl (sV s)
theorem Pl.plain(h:Pl v):mw v=true:=by
 cases h with
 |z=>rfl
 |b b=>cases b<;>rfl
 |i n h=>simp [mw,fM,dJ,iV]
 |s s h=>
  have h' :(s.length:Int)≤40:=by omega
  simp [mw,fM,dJ,sV,h']
theorem Pl.right(h:Pl v):fM v=true:=by
 have:=h.plain
 unfold mw at this
 rw [kN]at this
 exact this.1
theorem Eu(h:mw v=true)(hr:r64 v.N):Pl v:=by
 obtain⟨k,n,u,s⟩:=v
 unfold mw fM dJ at h
 simp only [kN,qo,pI]at h
 obtain⟨h1,h2⟩:=h
 by_cases k0:k=0
 ·subst k0
  simp at h1
  rw [show(⟨0,n,u,s⟩:ac)=zV from by simp only [zV];simp [h1]]
  exact .z
 by_cases k1:k=1
 ·subst k1
  simp at h1
  obtain⟨⟨rfl,rfl⟩,h1⟩:=h1
  rcases h1 with rfl|rfl
  ·exact .b false
  ·exact .b true
 by_cases k2:k=2
 ·subst k2
  simp at h1
  obtain⟨rfl,rfl⟩:=h1
  exact .i n hr
 by_cases k3:k=3
 ·subst k3
  simp at h1
  obtain⟨⟨rfl,rfl⟩,h1⟩:=h1
  exact .s s (by omega)
 simp [k0,k1,k2,k3,h2]at h1
theorem Pl.r64(h:Pl v):r64 v.N:=by
 cases h with
 |z=>exact⟨by decide,by decide⟩
 |b b=>cases b<;>exact⟨by decide,by decide⟩
 |i n h=>exact h
 |s s h=>exact⟨by simp [sV],by simp [sV]⟩
theorem Pl.check(h:Pl v):kY v=some 0:=by rw [nF,h.right];rfl
theorem Pl.plain_eq(h:Pl v):ma v=some true:=by rw [sL,h.plain]
theorem QN{b:ac}(ha:Pl a)(hb:Pl b):ph [a,b]=some 0:=by
 unfold ph jl jl jl
 simp [ha.check,hb.check]
theorem KR{b:ac}(ha:Pl a)(hb:Pl b)(to:Int→Int→Option (Int×Bool)):ro a b to=
  if(a.Kind=0∨a.Kind=2)∧(b.Kind=0∨b.Kind=2)then(if a.Kind=0∨b.Kind=0 then some (zV,0)else(to a.N b.N).bind fun r=>if r.2 then some (iV r.1,0)else some (zV,140))else some (zV,2):=by
 unfold ro px jU jU jU
 simp only [ha.check,hb.check,be]
 cases ha<;>cases hb<;>simp [zV,bV,iV,sV,oU,n9]
 congr 1
 funext r
 cases r.2<;>rfl
inductive Tu:ac→Prop
 |z:Tu zV
 |b (b:Bool):Tu (bV b)
theorem Tu.pl(h:Tu v):Pl v:=by cases h;exact .z;exact .b _
theorem iT(h:Pl v):Tu v↔v.Kind≤1:=by
 constructor
 ·intro h;cases h<;>simp [zV,bV]
 ·intro hk
  cases h with
  |z=>exact .z
  |b b=>exact .b b
  |i n h=>simp [iV]at hk
  |s s h=>simp [sV]at hk
def tn(v:ac):Int:=if v.Kind=0 then 1 else 2*v.N
def tv(n:Int):ac:=if n=0 then bV false else if n=1 then zV else bV true
theorem Qz(h:Tu v):tn v=0∨tn v=1∨tn v=2:=by
 cases h with
 |z=>exact .inr (.inl rfl)
 |b b=>cases b;exact .inl rfl;exact .inr (.inr rfl)
theorem DN(h:Tu v):wP v=some (tn v):=by
 cases h with
 |z=>rfl
 |b b=>cases b<;>rfl
theorem Qv{n:Int}(h:n=0∨n=1∨n=2):Tu (tv n):=by
 rcases h with rfl|rfl|rfl
 ·exact .b false
 ·exact .z
 ·exact .b true
theorem Mm(h:Pl v)(hn: ¬Tu v):decide (1<v.Kind)=true:=by
 rw [iT h]at hn;simp;omega
theorem ZA(h:Tu v):decide (1<v.Kind)=false:=by
 have:=(iT h.pl).1 h;simp;omega
def Fh(a b:ac):ac:=tv (min (tn a) (tn b))
def SX(a b:ac):ac:=tv (max (tn a) (tn b))
def F2(a:ac):ac:=tv (2-tn a)
theorem Hv{b:ac}(ha:Tu a)(hb:Tu b):sn a b=some (Fh a b,0):=by
 cases ha with
 |z=>cases hb with
  |z=>rfl
  |b b=>cases b<;>rfl
 |b x=>cases hb with
  |z=>cases x<;>rfl
  |b b=>cases x<;>cases b<;>rfl
theorem Je{b:ac}(ha:Tu a)(hb:Tu b):uN a b=some (SX a b,0):=by
 cases ha with
 |z=>cases hb with
  |z=>rfl
  |b b=>cases b<;>rfl
 |b x=>cases hb with
  |z=>cases x<;>rfl
  |b b=>cases x<;>cases b<;>rfl
theorem Ao(ha:Tu a):qq a=some (F2 a,0):=by
 cases ha with
 |z=>rfl
 |b x=>cases x<;>rfl
theorem EM{b:ac}(ha:Pl a)(hb:Pl b)(h: ¬(Tu a∧Tu b))(to:List Int→Option Int):nD to [a,b]=some (zV,2):=by
 unfold nD
 rw [QN ha hb]
 simp only [be]
 rw [aM (by decide)]
 unfold lE
 by_cases h1:Tu a
 ·have h2: ¬Tu b:=fun k=>h ⟨h1,k⟩
  rw [ZA h1]
  simp only [gp,ek,DN h1,be]
  rw [cq (by simp)]
  simp only [be]
  unfold lE
  rw [Mm hb h2,aY rfl];rfl
 ·rw [Mm ha h1,aY rfl];rfl
theorem FL(ha:Pl a)(h: ¬Tu a):qq a=some (zV,2):=by
 unfold qq nD ph jl jl
 rw [ha.check]
 simp only [be]
 rw [aM (by decide)]
 unfold lE
 simp only [be]
 rw [aM (by decide),Mm ha h,aY rfl];rfl
def Fb(a b:ac):Int:=(li a b).getD 0
theorem BA{b:ac}(ha:Pl a)(hb:Pl b):li a b=some (Fb a b):=by
 unfold Fb
 have: ∃c,li a b=some c:=by
  unfold li
  rw [ha.plain_eq,hb.plain_eq]
  simp only [be,mS,Bt,eQ,ek]
  unfold iJ nk gB kT oO i6
  simp only [yN,be,gp,ek]
  have h1: ∀x y:Int,∃c,(if decide (x<y)=true then some (-1:Int)else if decide (y<x)=true then some 1 else some 0)=some c:=by
   intro x y;repeat' split
   all_goals exact⟨_,rfl⟩
  obtain⟨c1,e1⟩:=h1 a.Kind b.Kind
  obtain⟨c2,e2⟩:=h1 a.N b.N
  rw [e1,e2]
  simp only [be]
  unfold mK fX fX fX fX
  repeat' split
  all_goals exact⟨_,rfl⟩
 obtain⟨c,h⟩:=this
 rw [h];rfl
theorem T6{b:ac}(ha:Pl a)(hb:Pl b){is:Int→Option Bool}{f:Int→Bool}(hf: ∀c,is c=some (f c)):qp a b is=
  some (if a.Kind=0∨b.Kind=0 then(zV,0)else if a.Kind=b.Kind then(bV (f (Fb a b)),0)else(zV,2)):=by
 unfold qp
 rw [QN ha hb]
 simp only [be,BA ha hb,hf,oU]
 have hbv: ∀x,oV x=some (bV x):=fun x=>by cases x<;>rfl
 simp only [hbv,be]
 cases ha<;>cases hb<;>simp [zV,bV,iV,sV]

def A8:List (Int×(ac→ac→Option (ac×Int))):=(yc).getD []
theorem IB:yc=some A8:=rfl
def VD(tag:Int):ac→ac→Option (ac×Int):=(o6 A8 tag).getD (fun _ _=>none)
theorem dz4:VD 4=mF yh:=rfl
theorem dz5:VD 5=mF qq:=rfl
theorem dz6:VD 6=nT true:=rfl
theorem dz7:VD 7=nT false:=rfl
theorem acd:VD 20=lv nE:=rfl
theorem acc:VD 22=sn:=rfl
theorem acb:VD 23=uN:=rfl
def MT(tag x y:Int):Int×Bool:=(if tag=12 then rp x y else if tag=13 then py x y else if tag=14 then me x y else mf x y).getD (0,false)
theorem oE(n:Int):r64 (IntKind.i64.wrap n):=by rw [vt];unfold r64;omega
theorem Gp{n:Int}(h:0≤n)(h2:n<18446744073709551616):IntKind.u64.wrap n=n:=by rw [tI];omega
theorem tN(n:Int)(h:r64 n):pf n=some (n.natAbs:Int):=by
 unfold r64 at h
 unfold pf
 by_cases hn:n<0
 ·rw [aY (by simpa using hn),tI,tI]
  congr 1;omega
 ·rw [aM (by simpa using hn),tI]
  congr 1;omega
theorem WN(tag x y:Int)(hx:r64 x)(hy:r64 y):(if tag=12 then rp x y else if tag=13 then py x y else if tag=14 then me x y else mf x y)=some (MT tag x y)∧r64 (MT tag x y).1:=by
 unfold MT
 split
 ·exact⟨rfl,oE _⟩
 ·split
  ·exact⟨rfl,oE _⟩
  ·split
   ·unfold me mU mN
    simp only [tN x hx,tN y hy,be]
    split
    ·exact⟨rfl,oE _⟩
    ·exact⟨rfl,oE _⟩
   ·unfold mf
    by_cases h0:y=0
    ·subst h0;exact⟨rfl,show r64 0 from⟨by decide,by decide⟩⟩
    ·rw [aM (by simpa using h0)]
     simp only [tN x hx,tN y hy,be]
     have hn:nz ((y.natAbs:Nat):Int)=some ():=by
      unfold nz
      rw [aM (by omega)]
     rw [hn]
     unfold mN
     simp only [be]
     split
     ·exact⟨rfl,oE _⟩
     ·exact⟨rfl,oE _⟩
def wy(tag:Int)(a b:ac):ac×Int:=
 if(a.Kind=0∨a.Kind=2)∧(b.Kind=0∨b.Kind=2)then(if a.Kind=0∨b.Kind=0 then(zV,0)else if(MT tag a.N b.N).2 then(iV (MT tag a.N b.N).1,0)else(zV,140))else(zV,2)
def eH(f:Int→Bool)(a b:ac):ac×Int:=if a.Kind=0∨b.Kind=0 then(zV,0)else if a.Kind=b.Kind then(bV (f (Fb a b)),0)else(zV,2)
def EG(q:ac×Int):ac×Int:=if q.2=0 then(F2 q.1,0)else q
def BN(tag:Int)(a b:ac):ac×Int:=
 if tag=4 then wy 13 (iV 0) a else
 if tag=5 then(if a.Kind≤1 then(F2 a,0)else(zV,2))else
 if tag=6 then(bV (a.Kind==0),0)else
 if tag=7 then(bV (a.Kind !=0),0)else
 if tag≤15 then wy tag a b else
 if tag=16 then eH (fun c=>c==0) a b else
 if tag=17 then EG (eH (fun c=>c==0) a b)else
 if tag=18 then eH (fun c=>decide (c<0)) a b else
 if tag=19 then EG (eH (fun c=>decide (c<0)) b a)else
 if tag=20 then eH (fun c=>decide (c<0)) b a else
 if tag=21 then EG (eH (fun c=>decide (c<0)) a b)else
 if tag=22 then(if a.Kind≤1∧b.Kind≤1 then(Fh a b,0)else(zV,2))else
 (if a.Kind≤1∧b.Kind≤1 then(SX a b,0)else(zV,2))
theorem rk(f:Int→Bool)(a b:ac):(eH f a b).2=0→Tu (eH f a b).1:=by
 unfold eH
 split
 ·intro _;exact .z
 ·split
  ·intro _;exact .b _
  ·intro h;cases h
theorem BU(f:Int→Bool)(a b:ac):(eH f a b).2≠0→eH f a b=(zV,2):=by
 unfold eH
 split
 ·intro h;exact absurd rfl h
 ·split
  ·intro h;exact absurd rfl h
  ·intro _;rfl
theorem EE{do1:ac→ac→Option (ac×Int)}{b:ac}{f:Int→Bool}{x y:ac}(h:do1 a b=some (eH f x y)):th do1 a b=some (EG (eH f x y)):=by
 unfold th EG
 rw [h]
 simp only [be]
 by_cases h0:(eH f x y).2=0
 ·rw [aM (by simp [h0]),aY h0,Ao (rk f x y h0)];rfl
 ·rw [aY (by simpa using h0),aM h0]
theorem Fe{b:ac}(ha:Pl a)(hb:Pl b){to:Int→Int→Option (Int×Bool)}(h: ∀x y,to x y=if tag=12 then rp x y else if tag=13 then py x y else if tag=14 then me x y else mf x y):
  (ro a b to).bind (fun r=>some (r.1,r.2))=some (wy tag a b):=by
 rw [KR ha hb]
 unfold wy
 split
 ·split
  ·rfl
  ·rw [h,(WN tag a.N b.N ha.r64 hb.r64).1]
   simp only [be]
   split<;>rfl
 ·rfl
theorem GM{b:ac}(ha:Pl a)(hb:Pl b){is:Int→Option Bool}{f:Int→Bool}(hf: ∀c,is c=some (f c)):(qp a b is).bind (fun r=>some (r.1,r.2))=some (eH f a b):=by
 rw [T6 ha hb hf];rfl
theorem wR{b:ac}(ha:Pl a)(hb:Pl b):q6 a b=some (eH (fun c=>c==0) a b):=GM ha hb fun _=>rfl
theorem qO{b:ac}(ha:Pl a)(hb:Pl b):nE a b=some (eH (fun c=>decide (c<0)) a b):=GM ha hb fun _=>rfl
theorem QS(h:pk tag=some k)(hk:k≠0):tag=4∨tag=5∨tag=6∨tag=7∨tag=12∨tag=13∨tag=14∨tag=15∨tag=16∨tag=17∨tag=18∨tag=19∨tag=20∨tag=21∨tag=22∨tag=23:=by
 unfold pk at h
 repeat' split at h
 all_goals simp at h
 ·exact absurd h.symm hk
 all_goals omega
theorem Yy(h:pk tag=some k)(hk:k≠0){b:ac}(ha:Pl a)(hb:Pl b):VD tag a b=some (BN tag a b):=by
 have hbv: ∀x,oV x=some (bV x):=fun x=>by cases x<;>rfl
 rcases QS h hk with rfl|rfl|rfl|rfl|rfl|rfl|rfl|rfl|rfl|rfl|rfl|rfl|rfl|rfl|rfl|rfl
 ·rw [dz4];unfold mF yh n9
  simp only [be]
  have:=Fe (tag:=13) (Pl.i 0 ⟨by decide,by decide⟩) ha (to:=py) (fun _ _=>rfl)
  have h2:vg (iV 0) a=some (wy 13 (iV 0) a):=this
  rw [show(⟨2,0,0,[]⟩:ac)=iV 0 from rfl,h2];rfl
 ·rw [dz5];unfold mF BN
  rw [aM (by decide),aY rfl]
  by_cases ht:Tu a
  ·rw [Ao ht,aY ((iT ha).1 ht)];rfl
  ·rw [FL ha ht,aM (fun h=>ht ((iT ha).2 h))];rfl
 ·rw [dz6];unfold nT
  rw [hbv]
  simp only [be]
  unfold BN
  rw [aM (by decide),aM (by decide),aY rfl]
  cases hx:(a.Kind==0)<;>rfl
 ·rw [dz7];unfold nT
  rw [hbv]
  simp only [be]
  unfold BN
  rw [aM (by decide),aM (by decide),aM (by decide),aY rfl]
  simp only [bne]
  cases hx:(a.Kind==0)<;>rfl
 ·exact Fe (tag:=12) ha hb fun _ _=>rfl
 ·exact Fe (tag:=13) ha hb fun _ _=>rfl
 ·exact Fe (tag:=14) ha hb fun _ _=>rfl
 ·exact Fe (tag:=15) ha hb fun _ _=>rfl
 ·exact wR ha hb
 ·exact EE (wR ha hb)
 ·exact qO ha hb
 ·exact EE (do1:=lv nE) (by unfold lv;rw [qO hb ha];rfl)
 ·rw [acd];unfold lv;rw [qO hb ha];rfl
 ·exact EE (qO ha hb)
 ·rw [acc]
  show _=some (if a.Kind≤1∧b.Kind≤1 then(Fh a b,0)else(zV,2))
  by_cases ht:Tu a∧Tu b
  ·rw [Hv ht.1 ht.2,aY ⟨(iT ha).1 ht.1,(iT hb).1 ht.2⟩]
  ·rw [aM (fun h=>ht ⟨(iT ha).2 h.1,(iT hb).2 h.2⟩)]
   unfold sn
   rw [EM ha hb ht];rfl
 ·rw [acb]
  show _=some (if a.Kind≤1∧b.Kind≤1 then(SX a b,0)else(zV,2))
  by_cases ht:Tu a∧Tu b
  ·rw [Je ht.1 ht.2,aY ⟨(iT ha).1 ht.1,(iT hb).1 ht.2⟩]
  ·rw [aM (fun h=>ht ⟨(iT ha).2 h.1,(iT hb).2 h.2⟩)]
   unfold uN
   rw [EM ha hb ht];rfl
theorem YJ{b:ac}(ha:Pl a)(hb:Pl b):(wy tag a b).2=0→Pl (wy tag a b).1:=by
 unfold wy
 split
 ·split
  ·intro _;exact .z
  ·split
   ·intro _;exact .i _ (WN tag a.N b.N ha.r64 hb.r64).2
   ·intro h;cases h
 ·intro h;cases h
theorem VQ(tag:Int)(a b:ac):(wy tag a b).2≠0→wy tag a b=(zV,140)∨wy tag a b=(zV,2):=by
 unfold wy
 split
 ·split
  ·intro h;exact absurd rfl h
  ·split
   ·intro h;exact absurd rfl h
   ·intro _;exact .inl rfl
 ·intro _;exact .inr rfl
theorem Dj(h:Tu a):Tu (F2 a):=by
 unfold F2
 apply Qv
 have:=Qz h;omega
theorem ON{b:ac}(h:Tu a)(k:Tu b):Tu (Fh a b):=by
 apply Qv
 have:=Qz h;have:=Qz k;omega
theorem QX{b:ac}(h:Tu a)(k:Tu b):Tu (SX a b):=by
 apply Qv
 have:=Qz h;have:=Qz k;omega
theorem XG(f:Int→Bool)(a b:ac):(EG (eH f a b)).2=0→Tu (EG (eH f a b)).1:=by
 unfold EG
 split
 ·rename_i h;intro _;exact Dj (rk f a b h)
 ·rename_i h;intro k;exact absurd k h
theorem TK(f:Int→Bool)(a b:ac):(EG (eH f a b)).2≠0→EG (eH f a b)=(zV,2):=by
 unfold EG
 split
 ·intro h;exact absurd rfl h
 ·rename_i h;intro _;exact BU f a b h
theorem BM(h:pk tag=some k)(hk:k≠0){b:ac}(ha:Pl a)(hb:Pl b):
  ((BN tag a b).2=0∧Pl (BN tag a b).1)∨BN tag a b=(zV,2)∨(BN tag a b=(zV,140)∧(tag=4∨(12≤tag∧tag≤15))):=by
 have har: ∀t x y,Pl x→Pl y→((wy t x y).2=0∧Pl (wy t x y).1)∨wy t x y=(zV,2)∨wy t x y=(zV,140):=by
  intro t x y hx hy
  by_cases h0:(wy t x y).2=0
  ·exact .inl ⟨h0,YJ hx hy h0⟩
  ·rcases VQ t x y h0 with h|h
   ·exact .inr (.inr h)
   ·exact .inr (.inl h)
 have hh: ∀f x y,((eH f x y).2=0∧Pl (eH f x y).1)∨eH f x y=(zV,2):=by
  intro f x y
  by_cases h0:(eH f x y).2=0
  ·exact .inl ⟨h0,(rk f x y h0).pl⟩
  ·exact .inr (BU f x y h0)
 have hn: ∀f x y,((EG (eH f x y)).2=0∧Pl (EG (eH f x y)).1)∨EG (eH f x y)=(zV,2):=by
  intro f x y
  by_cases h0:(EG (eH f x y)).2=0
  ·exact .inl ⟨h0,(XG f x y h0).pl⟩
  ·exact .inr (TK f x y h0)
 rcases QS h hk with rfl|rfl|rfl|rfl|rfl|rfl|rfl|rfl|rfl|rfl|rfl|rfl|rfl|rfl|rfl|rfl
 ·rcases har 13 (iV 0) a (.i 0 ⟨by decide,by decide⟩) ha with h|h|h
  ·exact .inl h
  ·exact .inr (.inl h)
  ·exact .inr (.inr ⟨h,.inl rfl⟩)
 ·show _∨_∨_
  unfold BN
  rw [aM (by decide),aY rfl]
  split
  ·rename_i hk;exact .inl ⟨rfl,(Dj ((iT ha).2 hk)).pl⟩
  ·exact .inr (.inl rfl)
 ·exact .inl ⟨rfl,.b _⟩
 ·exact .inl ⟨rfl,.b _⟩
 ·rcases har 12 a b ha hb with h|h|h
  ·exact .inl h
  ·exact .inr (.inl h)
  ·exact .inr (.inr ⟨h,by decide⟩)
 ·rcases har 13 a b ha hb with h|h|h
  ·exact .inl h
  ·exact .inr (.inl h)
  ·exact .inr (.inr ⟨h,by decide⟩)
 ·rcases har 14 a b ha hb with h|h|h
  ·exact .inl h
  ·exact .inr (.inl h)
  ·exact .inr (.inr ⟨h,by decide⟩)
 ·rcases har 15 a b ha hb with h|h|h
  ·exact .inl h
  ·exact .inr (.inl h)
  ·exact .inr (.inr ⟨h,by decide⟩)
 ·exact(hh (fun c=>c==0) a b).imp_right .inl
 ·exact(hn (fun c=>c==0) a b).imp_right .inl
 ·exact(hh (fun c=>decide (c<0)) a b).imp_right .inl
 ·exact(hn (fun c=>decide (c<0)) b a).imp_right .inl
 ·exact(hh (fun c=>decide (c<0)) b a).imp_right .inl
 ·exact(hn (fun c=>decide (c<0)) a b).imp_right .inl
 ·show _∨_∨_
  rw [show BN 22 a b=if a.Kind≤1∧b.Kind≤1 then(Fh a b,0)else(zV,2)from rfl]
  split
  ·rename_i h;exact .inl ⟨rfl,(ON ((iT ha).2 h.1) ((iT hb).2 h.2)).pl⟩
  ·exact .inr (.inl rfl)
 ·show _∨_∨_
  rw [show BN 23 a b=if a.Kind≤1∧b.Kind≤1 then(SX a b,0)else(zV,2)from rfl]
  split
  ·rename_i h;exact .inl ⟨rfl,(QX ((iT ha).2 h.1) ((iT hb).2 h.2)).pl⟩
  ·exact .inr (.inl rfl)

def dz(tag:Int)(a b:ac):ac×Int:=if(BN tag a b).2=0 then BN tag a b else(zV,if(BN tag a b).2=140 then 140 else 201)
def CS(q:ac×Int)(f:ac→ac×Int):ac×Int:=if q.2=0 then f q.1 else q
def ev(r:List ac):Tr→ac×Int
 | .lf n=>if n.Tag=1 then(n.Value,0)else((r[n.Col.toNat]?).getD zV,0)
 | .un n a=>CS (ev r a) fun x=>dz n.Tag x x
 | .bi n a b=>CS (ev r a) fun x=>CS (ev r b) fun y=>dz n.Tag x y
def SW:Tr→Prop
 | .lf n=>r64 n.Value.N
 | .un _ a=>SW a
 | .bi _ a b=>SW a∧SW b
def xy(r:List ac):Tr→Prop
 | .lf n=>n.Tag=2→n.Col.toNat<r.length∧ ∃v,r[n.Col.toNat]? =some v∧Pl v
 | .un _ a=>xy r a
 | .bi _ a b=>xy r a∧xy r b
theorem vc(h:pk tag=some k)(hk:k≠0){b:ac}(ha:Pl a)(hb:Pl b):
  ((dz tag a b).2=0∧Pl (dz tag a b).1∧dz tag a b=BN tag a b)∨(dz tag a b=(zV,201)∧BN tag a b=(zV,2))∨(dz tag a b=(zV,140)∧BN tag a b=(zV,140)∧(tag=4∨(12≤tag∧tag≤15))):=by
 unfold dz
 rcases BM h hk ha hb with⟨h1,h2⟩|h1|⟨h1,h2⟩
 ·rw [aY h1];exact .inl ⟨h1,h2,rfl⟩
 ·rw [h1];exact .inr (.inl ⟨rfl,rfl⟩)
 ·rw [h1];exact .inr (.inr ⟨rfl,rfl,h2⟩)
theorem Ov(r:List ac)(n:aX)(a:Tr):ev r (.un n a)=CS (ev r a) fun x=>dz n.Tag x x:=rfl
theorem Ow(r:List ac)(n:aX)(a b:Tr):ev r (.bi n a b)=CS (ev r a) fun x=>CS (ev r b) fun y=>dz n.Tag x y:=rfl
theorem m6{q:ac×Int}{f:ac→ac×Int}(h:q.2=0):CS q f=f q.1:=aY h
theorem ja{q:ac×Int}{f:ac→ac×Int}(h:q.2≠0):CS q f=q:=aM h
theorem m4(r:List ac)(t:Tr):t.wf→SW t→xy r t→((ev r t).2=0∧Pl (ev r t).1)∨ev r t=(zV,201)∨ev r t=(zV,140):=by
 induction t with
 |lf n=>
  intro⟨h1,h2,_,_⟩ hr hc
  unfold ev
  split
  ·rename_i ht;exact .inl ⟨rfl,Eu (Z2 h2 ht) hr⟩
  ·rename_i ht
   have ht2:n.Tag=2:=(YQ h1).resolve_left ht
   obtain⟨_,v,hv,hp⟩:=hc ht2
   rw [hv];exact .inl ⟨rfl,hp⟩
 |un n a ih=>
  intro⟨⟨h1,_,_,_⟩,ha⟩ hr hc
  rw [Ov]
  rcases ih ha hr hc with⟨h2,h3⟩|h2|h2
  ·rw [m6 h2]
   rcases vc h1 (by decide) h3 h3 with⟨h4,h5,_⟩|⟨h4,_⟩|⟨h4,_⟩
   ·exact .inl ⟨h4,h5⟩
   ·exact .inr (.inl h4)
   ·exact .inr (.inr h4)
  ·rw [h2,ja (by decide)];exact .inr (.inl rfl)
  ·rw [h2,ja (by decide)];exact .inr (.inr rfl)
 |bi n a b iha ihb=>
  intro⟨⟨h1,_,_,_⟩,ha,hb⟩ ⟨hra,hrb⟩ ⟨hca,hcb⟩
  rw [Ow]
  rcases iha ha hra hca with⟨h2,h3⟩|h2|h2
  ·rw [m6 h2]
   rcases ihb hb hrb hcb with⟨k2,k3⟩|k2|k2
   ·rw [m6 k2]
    rcases vc h1 (by decide) h3 k3 with⟨h4,h5,_⟩|⟨h4,_⟩|⟨h4,_⟩
    ·exact .inl ⟨h4,h5⟩
    ·exact .inr (.inl h4)
    ·exact .inr (.inr h4)
   ·rw [k2,ja (by decide)];exact .inr (.inl rfl)
   ·rw [k2,ja (by decide)];exact .inr (.inr rfl)
  ·rw [h2,ja (by decide)];exact .inr (.inl rfl)
  ·rw [h2,ja (by decide)];exact .inr (.inr rfl)
theorem H0(stack l:List ac)(h:stack.length+l.length≤100000):kI (stack++l) (l.length:Int)=some (l,stack):=by
 unfold kI fH
 have e:IntKind.i64.wrap (((stack++l).length:Int)-(l.length:Int))=(stack.length:Int):=by
  rw [jd,cn (by omega) (by omega)];omega
 rw [e,lG stack.length (stack++l).length rfl rfl (by simp) (dK _)]
 simp only [be,wL,Gm (dK _),List.drop_length,kL]
 rw [cq (by simp;omega)]
 simp only [be,kL]
 rw [lG (i:=0) 0 stack.length rfl rfl (lC _) (by simp)]
 simp
theorem xT(stack:List ac){b:Int}(h:b≠0):gk b stack=some (zV,b):=by
 unfold gk;rw [aY (by simpa using h)];rfl
theorem Hf(r:List ac)(n:aX)(h:pk n.Tag=some k)(hk:k≠0){b:ac}(ha:Pl a)(hb:Pl b){l:List ac}(h0:cN l 0=some a)(h1:cN l (IntKind.i64.wrap ((l.length:Int)-1))=some b):
  iI r A8 n l=some ((BN n.Tag a b).1,(dz n.Tag a b).2):=by
 have hn:=QS h hk
 unfold iI
 rw [aM (by simp;omega),aM (by simp;omega),h0]
 simp only [be]
 rw [h1]
 simp only [be]
 have:=Yy h hk ha hb
 unfold VD at this
 rw [this]
 simp only [be]
 unfold qa
 rcases vc h hk ha hb with⟨h2,_,h4⟩|⟨h2,h4⟩|⟨h2,h4,_⟩
 ·rw [h4]at h2;rw [h4,h2];rfl
 ·rw [h2,h4];rfl
 ·rw [h2,h4];rfl
theorem Ma(r:List ac)(t:Tr):t.wf→SW t→xy r t→ ∀(s:Nat) (rest:List aX) (stack:List ac),stack.length+t.size≤50000→
  dG (iI r A8) (t.flat s++rest) 0 stack=if(ev r t).2=0 then dG (iI r A8) rest 0 (stack++[(ev r t).1])else some (zV,(ev r t).2):=by
 induction t with
 |lf n=>
  intro⟨h1,h2,h3,h4⟩ hr hc s rest stack hl
  simp only [Tr.flat,Tr.size,wC,kL]at hl ⊢
  rw [dG]
  have e1:(g9 n (-1) (-1)).Tag=n.Tag:=rfl
  rw [e1,nj h1]
  have h0:=H0 stack [] (by simp;omega)
  simp only [sG,pC]at h0
  simp only [be]
  rw [h0]
  simp only [be]
  have hv:iI r A8 (g9 n (-1) (-1)) []=some (ev r (.lf n)):=by
   unfold iI ev
   simp only [e1]
   rcases YQ h1 with ht|ht
   ·rw [aY (by simp [ht]),aY ht];rfl
   ·rw [aM (by simp [ht]),aY (by simp [ht]),aM (by simp [ht])]
    have hb:=MO h2 ht
    obtain⟨hm,v,hv,_⟩:=hc ht
    have e2:(g9 n (-1) (-1)).Col=n.Col:=rfl
    rw [e2,gT n.Col.toNat (by omega),hv]
    rfl
  have e0:(ev r (.lf n)).2=0:=by unfold ev;split<;>rfl
  rw [hv,aY e0]
  simp only [be,e0]
  rw [aM (by simp),cq (by simp;omega)]
  rfl
 |un n a ih=>
  intro⟨⟨h1,h2,h3,h4⟩,ha⟩ hr hc s rest stack hl
  simp only [Tr.flat,Tr.size,jP]at hl ⊢
  rw [Ov,ih ha hr hc s _ stack (by omega)]
  by_cases hx:(ev r a).2=0
  ·have hp:Pl (ev r a).1:=by
    rcases m4 r a ha hr hc with⟨_,h⟩|h|h
    ·exact h
    ·rw [h]at hx;cases hx
    ·rw [h]at hx;cases hx
   rw [aY hx,m6 hx]
   generalize (ev r a).1=x at hp
   simp only [wC,kL]
   rw [dG]
   have e1:(g9 n (((s+a.size:Nat):Int)-1) (-1)).Tag=n.Tag:=rfl
   rw [e1,nj h1]
   have h0:=H0 stack [x] (by simp;omega)
   simp only [be]
   have e0:(([x]:List ac).length:Int)=((1:Nat):Int):=rfl
   rw [←e0,h0]
   simp only [be]
   rw [Hf r (g9 n (((s+a.size:Nat):Int)-1) (-1)) (k:=1) h1 (by decide) hp hp rfl rfl]
   simp only [be,e1]
   rcases vc h1 (by decide) hp hp with⟨h5,_,h6⟩|⟨h5,_⟩|⟨h5,_⟩
   ·rw [aM (by simp [h5]),aY h5,cq (by simp;omega),h6];rfl
   ·rw [h5,aY (by decide),xT _ (by decide),aM (by decide)]
   ·rw [h5,aY (by decide),xT _ (by decide),aM (by decide)]
  ·rw [aM hx,ja hx,aM hx]
 |bi n a b iha ihb=>
  intro⟨⟨h1,h2,h3,h4⟩,ha,hb⟩ ⟨hra,hrb⟩ ⟨hca,hcb⟩ s rest stack hl
  simp only [Tr.flat,Tr.size,jP]at hl ⊢
  rw [Ow,iha ha hra hca s _ stack (by omega)]
  by_cases hx:(ev r a).2=0
  ·have hp:Pl (ev r a).1:=by
    rcases m4 r a ha hra hca with⟨_,h⟩|h|h
    ·exact h
    ·rw [h]at hx;cases hx
    ·rw [h]at hx;cases hx
   rw [aY hx,m6 hx]
   generalize (ev r a).1=x at hp
   rw [ihb hb hrb hcb (s+a.size) _ (stack++[x]) (by have:=a.size_pos;simp;omega)]
   by_cases hy:(ev r b).2=0
   ·have hq:Pl (ev r b).1:=by
     rcases m4 r b hb hrb hcb with⟨_,h⟩|h|h
     ·exact h
     ·rw [h]at hy;cases hy
     ·rw [h]at hy;cases hy
    rw [aY hy,m6 hy]
    generalize (ev r b).1=y at hq
    have hap:=a.size_pos
    simp only [wC,kL]
    rw [dG]
    have e1:(g9 n (((s+a.size:Nat):Int)-1) (((s+a.size+b.size:Nat):Int)-1)).Tag=n.Tag:=rfl
    rw [e1,nj h1]
    have h0:=H0 stack [x,y] (by simp;omega)
    simp only [be]
    have e0:(([x,y]:List ac).length:Int)=((2:Nat):Int):=rfl
    have e9:stack++[x]++[y]=stack++[x,y]:=by simp
    rw [←e0,e9,h0]
    simp only [be]
    rw [Hf r (g9 n (((s+a.size:Nat):Int)-1) (((s+a.size+b.size:Nat):Int)-1)) (k:=2) h1 (by decide) hp hq rfl rfl]
    simp only [be,e1]
    rcases vc h1 (by decide) hp hq with⟨h5,_,h6⟩|⟨h5,_⟩|⟨h5,_⟩
    ·rw [aM (by simp [h5]),aY h5,cq (by simp;omega),h6];rfl
    ·rw [h5,aY (by decide),xT _ (by decide),aM (by decide)]
    ·rw [h5,aY (by decide),xT _ (by decide),aM (by decide)]
   ·rw [aM hy,ja hy,aM hy]
  ·rw [aM hx,ja hx,aM hx]
def yI(r:List ac)(c:Int):Bool:=decide (c<(r.length:Int))&&mw ((r[c.toNat]?).getD zV)
def tp(r:List ac)(ns:List aX):Bool:=ns.all fun n=> !(n.Tag==2)||yI r n.Col
def Jx(ns:List aX):Prop:= ∀n∈ns,r64 n.Value.N
def To(r:List ac):Prop:= ∀v∈r,r64 v.N
theorem PP(hr:To r){c:Int}(h0:0≤c)(h:yI r c=true):c.toNat<r.length∧ ∃v,r[c.toNat]? =some v∧Pl v:=by
 unfold yI at h
 rw [kN,kO]at h
 have hlt:c.toNat<r.length:=by omega
 refine⟨hlt,r[c.toNat],oy hlt,?_⟩
 have h2:=h.2
 rw [oy hlt]at h2
 exact Eu h2 (hr _ (List.getElem_mem hlt))
theorem v6(hr:To r)(t:Tr):t.wf→ ∀s,tp r (t.flat s)=true→xy r t:=by
 induction t with
 |lf n=>
  intro⟨_,h2,_,_⟩ s h ht
  simp only [tp,Tr.flat,Ab,List.all_nil,yM]at h
  have e1:(g9 n (-1) (-1)).Tag=n.Tag:=rfl
  have e2:(g9 n (-1) (-1)).Col=n.Col:=rfl
  rw [e1,e2,ht]at h
  exact PP hr (MO h2 ht).1 (by simpa using h)
 |un n a ih=>
  intro⟨_,ha⟩ s h
  simp only [tp,Tr.flat,List.all_append,kN]at h
  exact ih ha s h.1
 |bi n a b iha ihb=>
  intro⟨_,ha,hb⟩ s h
  simp only [tp,Tr.flat,List.all_append,kN]at h
  exact⟨iha ha s h.1.1,ihb hb _ h.1.2⟩
theorem AB(t:Tr): ∀s,Jx (t.flat s)→SW t:=by
 induction t with
 |lf n=>intro s h;exact h (g9 n (-1) (-1)) (by simp [Tr.flat])
 |un n a ih=>intro s h;exact ih s fun m hm=>h m (by simp [Tr.flat,hm])
 |bi n a b iha ihb=>intro s h;exact⟨iha s fun m hm=>h m (by simp [Tr.flat,hm]),ihb _ fun m hm=>h m (by simp only [Tr.flat,Ad];exact .inl (.inr hm))⟩
theorem DW{t:Tr}(hw:t.wf): ∀s {n:aX},n∈t.flat s→n.Tag=2→0≤n.Col∧n.Col<16:=by
 induction t with
 |lf m=>
  intro s n hn ht
  simp only [Tr.flat,CY]at hn
  subst hn
  exact MO hw.2.1 ht
 |un m a ih=>
  intro s n hn ht
  simp only [Tr.flat,Ad,CY]at hn
  rcases hn with hn|rfl
  ·exact ih hw.2 s hn ht
  ·exact absurd (pk2 hw.1.1 ht) (by decide)
 |bi m a b iha ihb=>
  intro s n hn ht
  simp only [Tr.flat,Ad,CY]at hn
  rcases hn with(hn|hn)|rfl
  ·exact iha hw.2.1 s hn ht
  ·exact ihb hw.2.2 _ hn ht
  ·exact absurd (pk2 hw.1.1 ht) (by decide)
def ox(r:List ac)(ns:List aX):ac×Int:=match mg ns with
 |none=>(zV,200)
 |some t=>if tp r ns then ev r t else(zV,2)
theorem Fw(e:br)(r:List ac)(x:ac): ∀cs:List Int,(∀c∈cs,0≤c)→oj e r cs x=if cs.all (yI r)then iC e (iI r A8)else some (zV,2)
 |[],_=>by
  unfold oj
  rw [IB]
  simp only [be]
  cases iC e (iI r A8)<;>rfl
 |c::cs,hc=>by
  unfold oj
  rw [Fw e r x cs fun c hm=>hc c (kF _ hm)]
  have h0:=hc c (kJ ..)
  by_cases h:(r.length:Int)≤c
  ·have hb:yI r c=false:=by unfold yI;rw [Bool.and_eq_false_iff];left;simp;omega
   simp [h,hb,zV]
  ·have hlt:c.toNat<r.length:=by omega
   have e1:cN r c=some r[c.toNat]:=by rw [gT c.toNat (by omega),oy hlt]
   have hb:yI r c=mw r[c.toNat]:=by
    unfold yI
    rw [oy hlt]
    have:decide (c<(r.length:Int))=true:=by simp;omega
    rw [this];rfl
   rw [aY (by simpa using h),e1]
   simp only [be,sL]
   rw [Ab,hb]
   cases mw r[c.toNat]<;>simp [zV]
theorem JK(r:List ac){t:Tr}(hw:t.wf)(hr:SW t)(hc:xy r t)(hs:t.size≤1000):iC ⟨t.flat 0⟩ (iI r A8)=some (ev r t):=by
 unfold iC
 have h:=Ma r t hw hr hc 0 [] [] (by simp;omega)
 rw [sG]at h
 rw [h]
 rcases m4 r t hw hr hc with⟨h2,h3⟩|h2|h2
 ·rw [aY h2]
  unfold dG gk
  rw [aM (by simp)]
  simp only [kL]
  rw [show cN [(ev r t).1] 0=some (ev r t).1 from rfl]
  simp only [be]
  congr 1
  exact Prod.ext rfl h2.symm
 ·rw [h2,aM (by decide)]
 ·rw [h2,aM (by decide)]
theorem vW(e:br)(r:List ac)(hl:e.Nodes.length≤50000)(he:Jx e.Nodes)(hr:To r):sC e r=some (ox r e.Nodes):=by
 unfold sC ox
 rw [qV e (by omega)]
 cases ht:mg e.Nodes with
 |none=>
  have:gQ e.Nodes=false:=by unfold gQ;rw [ht];rfl
  rw [this];rfl
 |some t=>
  have hri:gQ e.Nodes=true:=by unfold gQ;rw [ht];rfl
  obtain⟨hw,hN,hs⟩:=jX ht
  rw [hri]
  simp only [eQ,be]
  rw [aM (by decide)]
  obtain⟨cs,h1,h2⟩:=A4 e hri
  rw [h1]
  simp only [be]
  have hcnt: ∀n∈e.Nodes,n.Tag=2→0≤n.Col:=fun n hn htag=>by
   rw [hN]at hn
   exact(DW hw 0 hn htag).1
  rw [Fw e r _ cs fun c hc=>by obtain⟨n,hn,htag,rfl⟩:=(h2 c).1 hc;exact hcnt n hn htag]
  have hcols:cs.all (yI r)=tp r e.Nodes:=by
   rw [Ac,jO]
   unfold tp
   rw [jO]
   constructor
   ·intro h n hn
    by_cases htag:n.Tag=2
    ·rw [h n.Col ((h2 _).2 ⟨n,hn,htag,rfl⟩)];simp
    ·simp [htag]
   ·intro h c hc
    obtain⟨n,hn,htag,rfl⟩:=(h2 c).1 hc
    have:=h n hn
    simpa [htag] using this
  rw [hcols]
  cases hb:tp r e.Nodes with
  |false=>rfl
  |true=>
   simp only [eQ]
   have e9:e=⟨t.flat 0⟩:=by cases e;simp only at hN;rw [hN]
   rw [hN]at he hb
   rw [e9]
   exact JK r hw (AB t 0 he) (v6 hr t hw 0 hb) hs


variable{ka kb:Int}
theorem Kg(ht:tag=4∨tag=12∨tag=13∨tag=14∨tag=15):kn tag ka kb=(2,(ka==2||ka==0)&&(kb==2||kb==0)):=by
 rcases ht with rfl|rfl|rfl|rfl|rfl<;>(unfold kn iY iq;cases (ka==2||ka==0)<;>cases (kb==2||kb==0)<;>rfl)
theorem Rk(ht:tag=5∨tag=22∨tag=23):kn tag ka kb=(1,(ka==1||ka==0)&&(kb==1||kb==0)):=by
 rcases ht with rfl|rfl|rfl<;>(unfold kn iY iq;cases (ka==1||ka==0)<;>cases (kb==1||kb==0)<;>rfl)
def qk(v:ac)(k:Int):Prop:=v.Kind=k∨v.Kind=0
theorem JC(h:pk tag=some k)(hk:k≠0){b:ac}(ha:Pl a)(hb:Pl b)(h1:qk a ka)(h2:k=1∧b=a∧kb=0∨k=2∧qk b kb)(hn:(kn tag ka kb).2=true):
  ((BN tag a b).2=0∧qk (BN tag a b).1 (kn tag ka kb).1)∨BN tag a b=(zV,140):=by
 have har: ∀t x y,qk x 2→qk y 2→((wy t x y).2=0∧qk (wy t x y).1 2)∨wy t x y=(zV,140):=by
  intro t x y hx hy
  unfold wy
  rw [aY ⟨hx.symm,hy.symm⟩]
  split
  ·exact .inl ⟨rfl,.inr rfl⟩
  ·split
   ·exact .inl ⟨rfl,.inl rfl⟩
   ·exact .inr rfl
 have hbv: ∀x,(bV x).Kind=1:=fun _=>rfl
 have htv: ∀{v},Tu v→qk v 1:=fun h=>by cases h;exact .inr rfl;exact .inl rfl
 have hh: ∀f,(a.Kind=b.Kind∨a.Kind=0∨b.Kind=0)→(eH f a b).2=0∧(eH f b a).2=0:=by
  intro f hx
  unfold eH
  constructor
  ·split
   ·rfl
   ·rw [aY (by rename_i h9;simp only [not_or]at h9;rcases hx with h|h|h;exact h;exact absurd h h9.1;exact absurd h h9.2)]
  ·split
   ·rfl
   ·rw [aY (by rename_i h9;simp only [not_or]at h9;rcases hx with h|h|h;exact h.symm;exact absurd h h9.2;exact absurd h h9.1)]
 have hkk:k=2→(ka=kb∨ka=0∨kb=0)→(a.Kind=b.Kind∨a.Kind=0∨b.Kind=0):=by
  intro h9 h
  rcases h2 with⟨h5,_⟩|⟨_,h2⟩
  ·omega
  unfold qk at h1 h2
  rcases h with h|h|h<;>rcases h1 with h1|h1<;>rcases h2 with h2|h2<;>simp_all
 have hno: ∀f x y,(eH f x y).2=0→(EG (eH f x y)).2=0∧qk (EG (eH f x y)).1 1:=by
  intro f x y h9
  unfold EG
  rw [aY h9]
  exact⟨rfl,htv (Dj (rk f x y h9))⟩
 have h3:k=2→qk b kb:=by intro h9;rcases h2 with⟨h5,_⟩|⟨_,h2⟩;omega;exact h2
 have h10: ∀{x:ac} {kx:Int},qk x kx→kx=2∨kx=0→qk x 2:=by
  intro x kx h h';unfold qk at*;omega
 have h11: ∀{x:ac} {kx:Int},qk x kx→kx=1∨kx=0→x.Kind≤1:=by
  intro x kx h h';unfold qk at*;omega
 rcases QS h hk with rfl|rfl|rfl|rfl|rfl|rfl|rfl|rfl|rfl|rfl|rfl|rfl|rfl|rfl|rfl|rfl
 ·rw [Kg (by decide)]at hn ⊢
  have hx:ka=2∨ka=0:=by simp at hn;exact hn.1
  have:=har 13 (iV 0) a (.inl rfl) (h10 h1 hx)
  exact this
 ·rw [Rk (by decide)]at hn ⊢
  have hx:ka=1∨ka=0:=by simp at hn;exact hn.1
  have e:BN 5 a b=(F2 a,0):=by
   show(if a.Kind≤1 then(F2 a,0)else(zV,2))=_
   rw [aY (h11 h1 hx)]
  rw [e];exact .inl ⟨rfl,htv (Dj ((iT ha).2 (h11 h1 hx)))⟩
 ·exact .inl ⟨rfl,.inl rfl⟩
 ·exact .inl ⟨rfl,.inl rfl⟩
 all_goals have hk2:k=2:=by simp [pk]at h;omega
 all_goals have hb3:=h3 hk2
 ·rw [Kg (by decide)]at hn ⊢
  have hx:(ka=2∨ka=0)∧(kb=2∨kb=0):=by simp at hn;exact hn
  exact har 12 a b (h10 h1 hx.1) (h10 hb3 hx.2)
 ·rw [Kg (by decide)]at hn ⊢
  have hx:(ka=2∨ka=0)∧(kb=2∨kb=0):=by simp at hn;exact hn
  exact har 13 a b (h10 h1 hx.1) (h10 hb3 hx.2)
 ·rw [Kg (by decide)]at hn ⊢
  have hx:(ka=2∨ka=0)∧(kb=2∨kb=0):=by simp at hn;exact hn
  exact har 14 a b (h10 h1 hx.1) (h10 hb3 hx.2)
 ·rw [Kg (by decide)]at hn ⊢
  have hx:(ka=2∨ka=0)∧(kb=2∨kb=0):=by simp at hn;exact hn
  exact har 15 a b (h10 h1 hx.1) (h10 hb3 hx.2)
 ·have hx:ka=kb∨ka=0∨kb=0:=by simp [kn,iY,iq]at hn;omega
  have:=(hh (fun c=>c==0) (hkk hk2 hx)).1
  exact .inl ⟨this,htv (rk _ a b this)⟩
 ·have hx:ka=kb∨ka=0∨kb=0:=by simp [kn,iY,iq]at hn;omega
  exact .inl (hno (fun c=>c==0) a b (hh _ (hkk hk2 hx)).1)
 ·have hx:ka=kb∨ka=0∨kb=0:=by simp [kn,iY,iq]at hn;omega
  have:=(hh (fun c=>decide (c<0)) (hkk hk2 hx)).1
  exact .inl ⟨this,htv (rk _ a b this)⟩
 ·have hx:ka=kb∨ka=0∨kb=0:=by simp [kn,iY,iq]at hn;omega
  exact .inl (hno (fun c=>decide (c<0)) b a (hh _ (hkk hk2 hx)).2)
 ·have hx:ka=kb∨ka=0∨kb=0:=by simp [kn,iY,iq]at hn;omega
  have:=(hh (fun c=>decide (c<0)) (hkk hk2 hx)).2
  exact .inl ⟨this,htv (rk _ b a this)⟩
 ·have hx:ka=kb∨ka=0∨kb=0:=by simp [kn,iY,iq]at hn;omega
  exact .inl (hno (fun c=>decide (c<0)) a b (hh _ (hkk hk2 hx)).1)
 ·rw [Rk (by decide)]at hn ⊢
  have hx:(ka=1∨ka=0)∧(kb=1∨kb=0):=by simp at hn;exact hn
  have e:BN 22 a b=(Fh a b,0):=by
   show(if a.Kind≤1∧b.Kind≤1 then(Fh a b,0)else(zV,2))=_
   rw [aY ⟨h11 h1 hx.1,h11 hb3 hx.2⟩]
  rw [e];exact .inl ⟨rfl,htv (ON ((iT ha).2 (h11 h1 hx.1)) ((iT hb).2 (h11 hb3 hx.2)))⟩
 ·rw [Rk (by decide)]at hn ⊢
  have hx:(ka=1∨ka=0)∧(kb=1∨kb=0):=by simp at hn;exact hn
  have e:BN 23 a b=(SX a b,0):=by
   show(if a.Kind≤1∧b.Kind≤1 then(SX a b,0)else(zV,2))=_
   rw [aY ⟨h11 h1 hx.1,h11 hb3 hx.2⟩]
  rw [e];exact .inl ⟨rfl,htv (QX ((iT ha).2 (h11 h1 hx.1)) ((iT hb).2 (h11 hb3 hx.2)))⟩
def kindR(kinds:List Int)(r:List ac):Prop:= ∀(j:Nat) (k:Int),kinds[j]? =some k→ ∃v,r[j]? =some v∧Pl v∧qk v k
theorem Zx(hk4: ∀k∈kinds,k4 k)(hr:kindR kinds r)(t:Tr):t.wf→SW t→xy r t→CP kinds.length t→ ∀{k},kd kinds t=some k→
  ((ev r t).2=0∧qk (ev r t).1 k)∨(ev r t=(zV,140)∧ ∀s,(t.flat s).any WO=true):=by
 induction t with
 |lf n=>
  intro⟨h1,h2,_,_⟩ hg hc hcT k hk
  unfold kd at hk
  unfold ev
  split at hk
  ·rename_i ht;rw [aY ht];cases hk;exact .inl ⟨rfl,.inl rfl⟩
  ·rename_i ht
   have ht2:n.Tag=2:=(YQ h1).resolve_left ht
   have hlt:=hcT ht2
   have h0:=(MO h2 ht2).1
   rw [aM ht]
   have hgk:kinds[n.Col.toNat]? =some k:=by
    rw [oy (by omega)]at hk ⊢
    simpa using hk
   obtain⟨v,h3,h4,h5⟩:=hr _ _ hgk
   rw [h3];exact .inl ⟨rfl,h5⟩
 |un n a ih=>
  intro⟨⟨h1,_,_,_⟩,ha⟩ hg hc hcT k hk
  rw [NU]at hk
  cases hx:kd kinds a with
  |none=>rw [hx]at hk;cases hk
  |some x=>
   rw [hx,be]at hk
   split at hk
   ·rename_i hkn
    cases hk
    rw [Ov]
    rcases ih ha hg hc hcT hx with⟨h2,h3⟩|⟨h2,h3⟩
    ·rw [m6 h2]
     have hp:Pl (ev r a).1:=by
      rcases m4 r a ha hg hc with⟨_,h⟩|h|h
      ·exact h
      ·rw [h]at h2;cases h2
      ·rw [h]at h2;cases h2
     unfold dz
     rcases JC h1 (by decide) hp hp h3 (.inl ⟨rfl,rfl,rfl⟩) hkn with⟨h4,h5⟩|h4
     ·rw [aY h4];exact .inl ⟨h4,h5⟩
     ·rcases BM h1 (by decide) hp hp with⟨h6,_⟩|h6|⟨_,h6⟩
      ·rw [h4]at h6;cases h6
      ·rw [h4]at h6;cases h6
      ·rw [h4]
       exact .inr ⟨rfl,fun s=>by simp only [Tr.flat,Gb,wH,List.any_nil,Bool.or_false,pH];right;simp only [WO];have:(g9 n (((s+a.size:Nat):Int)-1) (-1)).Tag=n.Tag:=rfl;rw [this];simp;omega⟩
    ·rw [h2,ja (by decide)]
     exact .inr ⟨rfl,fun s=>by simp only [Tr.flat,Gb,pH];exact .inl (h3 s)⟩
   ·cases hk
 |bi n a b iha ihb=>
  intro⟨⟨h1,_,_,_⟩,ha,hb⟩ ⟨hga,hgb⟩ ⟨hca,hcb⟩ ⟨hTa,hTb⟩ k hk
  rw [Ko]at hk
  cases hx:kd kinds a with
  |none=>rw [hx]at hk;cases hk
  |some x=>
   cases hy:kd kinds b with
   |none=>rw [hx,hy]at hk;cases hk
   |some y=>
    rw [hx,hy]at hk
    simp only [be]at hk
    split at hk
    ·rename_i hkn
     cases hk
     rw [Ow]
     rcases iha ha hga hca hTa hx with⟨h2,h3⟩|⟨h2,h3⟩
     ·rw [m6 h2]
      have hp:Pl (ev r a).1:=by
       rcases m4 r a ha hga hca with⟨_,h⟩|h|h
       ·exact h
       ·rw [h]at h2;cases h2
       ·rw [h]at h2;cases h2
      rcases ihb hb hgb hcb hTb hy with⟨q2,q3⟩|⟨q2,q3⟩
      ·rw [m6 q2]
       have hq:Pl (ev r b).1:=by
        rcases m4 r b hb hgb hcb with⟨_,h⟩|h|h
        ·exact h
        ·rw [h]at q2;cases q2
        ·rw [h]at q2;cases q2
       unfold dz
       rcases JC h1 (by decide) hp hq h3 (.inr ⟨rfl,q3⟩) hkn with⟨h4,h5⟩|h4
       ·rw [aY h4];exact .inl ⟨h4,h5⟩
       ·rcases BM h1 (by decide) hp hq with⟨h6,_⟩|h6|⟨_,h6⟩
        ·rw [h4]at h6;cases h6
        ·rw [h4]at h6;cases h6
        ·rw [h4]
         exact .inr ⟨rfl,fun s=>by simp only [Tr.flat,Gb,wH,List.any_nil,Bool.or_false,pH];right;simp only [WO];have:(g9 n (((s+a.size:Nat):Int)-1) (((s+a.size+b.size:Nat):Int)-1)).Tag=n.Tag:=rfl;rw [this];simp;omega⟩
      ·rw [q2,ja (by decide)]
       exact .inr ⟨rfl,fun s=>by simp only [Tr.flat,Gb,pH];exact .inl (.inr (q3 _))⟩
     ·rw [h2,ja (by decide)]
      exact .inr ⟨rfl,fun s=>by simp only [Tr.flat,Gb,pH];exact .inl (.inl (h3 s))⟩
    ·cases hk
theorem Rl{e:br}(h:(fb e kinds).2=0): ∃t,mg e.Nodes=some t∧(∀k∈kinds,k4 k)∧qI kinds.length e.Nodes=true∧kd kinds t=some (fb e kinds).1:=by
 unfold fb at h ⊢
 split at h
 ·rename_i h1
  rw [aY h1]
  split at h
  ·rename_i h2
   rw [aY h2]
   split at h
   ·rename_i h3
    rw [aY h3]
    unfold gQ at h1
    cases ht:mg e.Nodes with
    |none=>rw [ht]at h1;cases h1
    |some t=>
     rw [ht]at h
     simp only [be]at h ⊢
     cases hk:kd kinds t with
     |none=>rw [hk]at h;cases h
     |some k=>exact⟨t,rfl,fun k hk=>xY h2 hk,h3,hk⟩
   ·cases h
  ·cases h
 ·cases h
theorem Pv(ns:List aX)(hl:ns.length≤200)(hg:Jx ns)(kinds:List Int)(h:(fb ⟨ns⟩ kinds).2=0)(own:List ac)(hr:kindR kinds own)(hrg:To own)(hlen:own.length=kinds.length):
  ((ox own ns).2=0∧Pl (ox own ns).1∧qk (ox own ns).1 (fb ⟨ns⟩ kinds).1)∨((ox own ns).2=140∧ns.any WO=true):=by
 obtain⟨t,ht,hk4,hcols,hkd⟩:=Rl h
 obtain⟨hw,hN,hs⟩:=jX ht
 have hN:ns=t.flat 0:=hN
 have hcT:CP kinds.length t:=xz _ t hw 0 (by rw [←hN];exact hcols)
 have hcB:tp own ns=true:=by
  unfold tp
  rw [jO]
  intro n hn
  by_cases htag:n.Tag=2
  ·have hc:=jO.1 hcols n hn
   have h0:=(DW hw 0 (by rw [←hN];exact hn) htag).1
   simp [htag]at hc ⊢
   have hlt:n.Col.toNat<kinds.length:=by omega
   obtain⟨v,hv,hp,_⟩:=hr n.Col.toNat kinds[n.Col.toNat] (oy hlt)
   unfold yI
   rw [hv]
   have e1:decide (n.Col<(own.length:Int))=true:=by simp;omega
   rw [e1];simpa using hp.plain
  ·simp [htag]
 have hcV:xy own t:=v6 hrg t hw 0 (by rw [←hN];exact hcB)
 have hgT:=AB t 0 (by rw [←hN];exact hg)
 have hev:ox own ns=ev own t:=by unfold ox;rw [ht];simp [hcB]
 rw [hev]
 rcases Zx hk4 hr t hw hgT hcV hcT hkd with⟨h2,h3⟩|⟨h2,h3⟩
 ·left
  refine⟨h2,?_,h3⟩
  rcases m4 own t hw hgT hcV with⟨_,h⟩|h|h
  ·exact h
  ·rw [h]at h2;cases h2
  ·rw [h]at h2;cases h2
 ·right
  rw [h2]
  exact⟨rfl,by rw [hN];exact h3 0⟩

def sh(s:Nat)(x:Int):Int:=if 0≤x then x+(s:Int)else x
def cb(r:List ac):Tr→Bool
 | .lf n=> !(n.Tag==2)||yI r n.Col
 | .un _ a=>cb r a
 | .bi _ a b=>cb r a&&cb r b

def us(s:Nat)(x:Int):Int:=if 0≤x then x-(s:Int)else x

def fA(v:ac)(l:List ac):ac:=l.foldl Fh v

theorem jK{a b:Bool}(h:a=true↔b=true):a=b:=by cases a<;>cases b<;>simp_all

theorem Dk(h:r64 x):(BitVec.ofInt 64 x).msb=decide (x<0):=by
 unfold r64 at h
 rw [BitVec.msb_eq_toInt,BitVec.toInt_ofInt]
 congr 1
 have:x.bmod (2^64)=x:=by
  rw [Int.bmod_def]
  split<;>omega
 rw [this]
theorem DL(b:BitVec 64):IntKind.i64.wrap (b.toNat:Int)=b.toInt:=by
 rw [vt,BitVec.toInt_eq_toNat_cond]
 have:=b.isLt
 first|done|omega|(split<;>omega)
theorem xE(hx:r64 x)(hy:r64 y):(decide (fi .xor .i64 x y<0))=(decide (x<0) !=decide (y<0))∧r64 (fi .xor .i64 x y):=by
 refine⟨?_,oE _⟩
 have e:fi .xor .i64 x y=(BitVec.ofInt 64 x^^^BitVec.ofInt 64 y).toInt:=DL _
 rw [e,←BitVec.msb_eq_toInt,BitVec.msb_xor,Dk hx,Dk hy]
theorem II(hx:r64 x)(hy:r64 y):(decide (fi .and .i64 x y<0))=(decide (x<0)&&decide (y<0)):=by
 have e:fi .and .i64 x y=(BitVec.ofInt 64 x&&&BitVec.ofInt 64 y).toInt:=DL _
 rw [e,←BitVec.msb_eq_toInt,BitVec.msb_and,Dk hx,Dk hy]
theorem E9(z:Int):decide (0≤z)= !decide (z<0):=by
 by_cases h:z<0
 ·have: ¬0≤z:=by omega
  simp [h,this]
 ·have:0≤z:=by omega
  simp [h,this]
instance(z:Int):Decidable (r64 z):=by unfold r64;infer_instance
theorem SF(hx:r64 x)(hy:r64 y):MT 12 x y=(IntKind.i64.wrap (x+y),decide (r64 (x+y))):=by
 have hc:=oE (x+y)
 show(IntKind.i64.wrap (x+y),_)=_
 congr 1
 show decide ((0:Int)≤_)=_
 obtain⟨h1,h2⟩:=xE hx hc
 obtain⟨h3,h4⟩:=xE hy hc
 rw [E9,II h2 h4,h1,h3]
 have hcw:=vt (x+y)
 unfold r64 at hx hy hc ⊢
 generalize IntKind.i64.wrap (x+y)=c at hc hcw ⊢
 by_cases hr: -9223372036854775808≤x+y∧x+y≤9223372036854775807
 ·rw [yu hr]
  by_cases p1:x<0<;>by_cases p2:y<0<;>by_cases p3:c<0<;>simp only [p1,p2,p3,Cl,decide_false]<;>first|rfl|(exfalso;omega)
 ·rw [yw hr]
  by_cases p1:x<0<;>by_cases p2:y<0<;>by_cases p3:c<0<;>simp only [p1,p2,p3,Cl,decide_false]<;>first|rfl|(exfalso;omega)
theorem QG(hx:r64 x)(hy:r64 y):MT 13 x y=(IntKind.i64.wrap (x-y),decide (r64 (x-y))):=by
 have hc:=oE (x-y)
 show(IntKind.i64.wrap (x-y),_)=_
 congr 1
 show decide ((0:Int)≤_)=_
 obtain⟨h1,h2⟩:=xE hx hy
 obtain⟨h3,h4⟩:=xE hx hc
 rw [E9,II h2 h4,h1,h3]
 have hcw:=vt (x-y)
 unfold r64 at hx hy hc ⊢
 generalize IntKind.i64.wrap (x-y)=c at hc hcw ⊢
 by_cases hr: -9223372036854775808≤x-y∧x-y≤9223372036854775807
 ·rw [yu hr]
  by_cases p1:x<0<;>by_cases p2:y<0<;>by_cases p3:c<0<;>simp only [p1,p2,p3,Cl,decide_false]<;>first|rfl|(exfalso;omega)
 ·rw [yw hr]
  by_cases p1:x<0<;>by_cases p2:y<0<;>by_cases p3:c<0<;>simp only [p1,p2,p3,Cl,decide_false]<;>first|rfl|(exfalso;omega)
theorem Fg{y:Nat}(h:y<18446744073709551616):fi .and .u64 (y:Int) 4294967295=((y%4294967296:Nat):Int):=by
 have e:fi .and .u64 (y:Int) 4294967295=IntKind.u64.wrap (((BitVec.ofInt 64 (y:Int)&&&BitVec.ofInt 64 4294967295).toNat:Nat):Int):=rfl
 have e1:BitVec.ofInt 64 (y:Int)=BitVec.ofNat 64 y:=BitVec.ofInt_natCast 64 y
 have e2:BitVec.ofInt 64 4294967295=BitVec.ofNat 64 (2^32-1):=by decide
 rw [e,e1,e2,BitVec.toNat_and,BitVec.toNat_ofNat,BitVec.toNat_ofNat,Co (by omega:y<2^64),Co (by omega:2^32-1<2^64),Nat.and_two_pow_sub_one_eq_mod,Gp (by omega) (by omega)]
theorem wj(y:Nat):((y:Int)).fdiv (2^(min (Int.toNat (32:Int)) IntKind.u64.bits))=((y/4294967296:Nat):Int):=by
 have e:(2:Int)^(min (Int.toNat (32:Int)) IntKind.u64.bits)=4294967296:=by decide
 rw [e,Int.fdiv_eq_ediv_of_nonneg _ (by decide)]
 rfl
theorem qm{n:Nat}(h:n<18446744073709551616):IntKind.u64.wrap (n:Int)=(n:Int):=Gp (by omega) (by omega)
theorem Ra(x y:Nat)(hx:x<18446744073709551616)(hy:y<18446744073709551616):mU (x:Int) (y:Int)=some (((x*y/18446744073709551616:Nat):Int),((x*y%18446744073709551616:Nat):Int)):=by
 unfold mU
 have hx0:x%4294967296<4294967296:=uG _ (by decide)
 have hy0:y%4294967296<4294967296:=uG _ (by decide)
 have hx1:x/4294967296<4294967296:=by omega
 have hy1:y/4294967296<4294967296:=by omega
 have ex:x=x/4294967296*4294967296+x%4294967296:=by omega
 have ey:y=y/4294967296*4294967296+y%4294967296:=by omega
 rw [Fg hx,Fg hy,wj,wj]
 generalize x/4294967296=x1 at*
 generalize x%4294967296=x0 at*
 generalize y/4294967296=y1 at*
 generalize y%4294967296=y0 at*
 have b00:x0*y0≤4294967295*4294967295:=wu (by omega) (by omega)
 have b10:x1*y0≤4294967295*4294967295:=wu (by omega) (by omega)
 have b01:x0*y1≤4294967295*4294967295:=wu (by omega) (by omega)
 have b11:x1*y1≤4294967295*4294967295:=wu (by omega) (by omega)
 have exy:x*y=x1*y1*18446744073709551616+(x1*y0+x0*y1)*4294967296+x0*y0:=by
  rw [ex,ey]
  simp only [um,Nat.mul_add]
  have h1:x1*4294967296*(y1*4294967296)=x1*y1*18446744073709551616:=by
   rw [Nat.mul_mul_mul_comm]
  have h2:x1*4294967296*y0=x1*y0*4294967296:=by rw [Nat.mul_right_comm]
  have h3:x0*(y1*4294967296)=x0*y1*4294967296:=by rw [Nat.mul_assoc]
  rw [h1,h2,h3];omega
 rw [←wK x1 y1,←wK x1 y0,←wK x0 y0,←wK x0 y1,←wK x y]
 rw [exy]
 generalize x0*y0=p at*
 generalize x1*y0=q at*
 generalize x0*y1=r at*
 generalize x1*y1=s at*
 rw [qm (n:=s) (by omega),qm (n:=q) (by omega),qm (n:=p) (by omega),qm (n:=r) (by omega),wj]
 rw [←Aj q (p/4294967296),qm (n:=q+p/4294967296) (by omega),wj,←Aj s,qm (n:=s+(q+p/4294967296)/4294967296) (by omega)]
 rw [Fg (by omega),←Aj,qm (n:=(q+p/4294967296)%4294967296+r) (by omega),wj,←Aj,qm (n:=s+(q+p/4294967296)/4294967296+((q+p/4294967296)%4294967296+r)/4294967296) (by omega)]
 congr 1
 refine Prod.ext ?_ ?_
 ·simp only
  congr 1
  omega
 ·simp only
  rw [tI];omega
theorem JF(x y:Int):x*y=if(decide (x<0) !=decide (y<0))=true then -(((x.natAbs*y.natAbs:Nat)):Int)else((x.natAbs*y.natAbs:Nat):Int):=by
 have hx:x=if x<0 then -(x.natAbs:Int)else(x.natAbs:Int):=by split<;>omega
 have hy:y=if y<0 then -(y.natAbs:Int)else(y.natAbs:Int):=by split<;>omega
 rw [wK]
 by_cases p1:x<0<;>by_cases p2:y<0
 ·rw [aY p1]at hx;rw [aY p2]at hy
  conv=>lhs;rw [hx,hy]
  simp [p1,p2,Int.neg_mul_neg]
 ·rw [aY p1]at hx;rw [aM p2]at hy
  conv=>lhs;rw [hx,hy]
  simp [p1,p2,Int.neg_mul]
 ·rw [aM p1]at hx;rw [aY p2]at hy
  conv=>lhs;rw [hx,hy]
  simp [p1,p2,Int.mul_neg]
 ·rw [aM p1]at hx;rw [aM p2]at hy
  conv=>lhs;rw [hx,hy]
  simp [p1,p2]
theorem Gw(m:Nat)(hm:m<18446744073709551616)(b:Bool): ∃n,mN (m:Int) b=some (n,decide (r64 (if b then -(m:Int)else(m:Int))))∧(r64 (if b then -(m:Int)else(m:Int))→n=if b then -(m:Int)else(m:Int)):=by
 unfold mN
 cases b with
 |true=>
  simp only [eQ]
  refine⟨IntKind.i64.wrap (IntKind.u64.wrap (0-(m:Int))),?_,fun hr=>?_⟩
  ·congr 2
   exact DA.mpr (by unfold r64;omega)
  ·unfold r64 at hr
   rw [tI,vt];omega
 |false=>
  simp only [gp,ek]
  refine⟨IntKind.i64.wrap (m:Int),?_,fun hr=>?_⟩
  ·congr 2
   exact DA.mpr (by unfold r64;omega)
  ·unfold r64 at hr
   rw [vt];omega
theorem Q9(hx:r64 x)(hy:r64 y):(MT 14 x y).2=decide (r64 (x*y))∧(r64 (x*y)→(MT 14 x y).1=x*y):=by
 have ha:x.natAbs≤9223372036854775808:=by unfold r64 at hx;omega
 have hb:y.natAbs≤9223372036854775808:=by unfold r64 at hy;omega
 have hprod:=JF x y
 have e:MT 14 x y=(me x y).getD (0,false):=rfl
 rw [e]
 unfold me
 rw [tN x hx,tN y hy]
 simp only [be]
 rw [Ra _ _ (by omega) (by omega)]
 simp only [be]
 generalize (decide (x<0) !=decide (y<0))=b at hprod ⊢
 generalize x.natAbs*y.natAbs=m at hprod ⊢
 obtain⟨n,h1,h2⟩:=Gw (m%18446744073709551616) (uG _ (by decide)) b
 rw [h1]
 simp only [be,Ge]
 rw [hprod]
 by_cases hm:m<18446744073709551616
 ·rw [Co hm]at h2 ⊢
  have hd:m/18446744073709551616=0:=Nat.div_eq_of_lt hm
  rw [hd]
  refine⟨by simp,fun hr=>h2 hr⟩
 ·have hd:m/18446744073709551616≠0:=by omega
  have hnr: ¬r64 (if b=true then -(m:Int)else(m:Int)):=by
   unfold r64
   split<;>omega
  refine⟨?_,fun hr=>absurd hr hnr⟩
  have:((((m/18446744073709551616:Nat):Int))==0)=false:=by simp;omega
  rw [this]
  simp [hnr]
theorem JD(x y:Int):x.tdiv y=if(decide (x<0) !=decide (y<0))=true then -((x.natAbs/y.natAbs:Nat):Int)else((x.natAbs/y.natAbs:Nat):Int):=by
 have hx:x=if x<0 then -(x.natAbs:Int)else(x.natAbs:Int):=by split<;>omega
 have hy:y=if y<0 then -(y.natAbs:Int)else(y.natAbs:Int):=by split<;>omega
 have ht: ∀a b:Nat,((a:Int)).tdiv (b:Int)=((a/b:Nat):Int):=fun a b=>rfl
 by_cases p1:x<0<;>by_cases p2:y<0
 ·rw [aY p1]at hx;rw [aY p2]at hy
  conv=>lhs;rw [hx,hy]
  rw [Int.neg_tdiv,Int.tdiv_neg,ht]
  simp [p1,p2]
 ·rw [aY p1]at hx;rw [aM p2]at hy
  conv=>lhs;rw [hx,hy]
  rw [Int.neg_tdiv,ht]
  simp [p1,p2]
 ·rw [aM p1]at hx;rw [aY p2]at hy
  conv=>lhs;rw [hx,hy]
  rw [Int.tdiv_neg,ht]
  simp [p1,p2]
 ·rw [aM p1]at hx;rw [aM p2]at hy
  conv=>lhs;rw [hx,hy]
  rw [ht]
  simp [p1,p2]
theorem Sc(hx:r64 x)(hy:r64 y)(h0:y≠0):(MT 15 x y).2=decide (r64 (x.tdiv y))∧(r64 (x.tdiv y)→(MT 15 x y).1=x.tdiv y):=by
 have ha:x.natAbs≤9223372036854775808:=by unfold r64 at hx;omega
 have hq:=JD x y
 have e:MT 15 x y=(mf x y).getD (0,false):=rfl
 rw [e]
 unfold mf
 rw [aM (by simpa using h0),tN x hx,tN y hy]
 simp only [be]
 have hn:nz ((y.natAbs:Nat):Int)=some ():=by
  unfold nz
  rw [aM (by omega)]
 rw [hn]
 have ht:((x.natAbs:Int)).tdiv (y.natAbs:Int)=((x.natAbs/y.natAbs:Nat):Int):=rfl
 have hle:x.natAbs/y.natAbs≤x.natAbs:=Nat.div_le_self _ _
 simp only [be]
 rw [ht,qm (by omega)]
 generalize (decide (x<0) !=decide (y<0))=b at hq ⊢
 obtain⟨n,h1,h2⟩:=Gw (x.natAbs/y.natAbs) (by omega) b
 rw [h1]
 simp only [be,Ge]
 rw [hq]
 exact⟨rfl,h2⟩
def Yv(tag x y:Int):Option Int:=if tag=12 then some (x+y)else if tag=13 then some (x-y)else if tag=14 then some (x*y)else if y=0 then none else some (x.tdiv y)
def FT(tag x y:Int):ac×Int:=match Yv tag x y with
 |none=>(zV,140)
 |some z=>if r64 z then(iV z,0)else(zV,140)
theorem Wn(x y:Int):Yv 12 x y=some (x+y):=rfl
theorem Wm(x y:Int):Yv 13 x y=some (x-y):=rfl
theorem Wl(x y:Int):Yv 14 x y=some (x*y):=rfl
theorem Ot(x y:Int):Yv 15 x y=if y=0 then none else some (x.tdiv y):=rfl
theorem po{z:Int}(h:Yv tag x y=some z):FT tag x y=if r64 z then(iV z,0)else(zV,140):=by
 unfold FT;rw [h]
theorem GA(h:Yv tag x y=none):FT tag x y=(zV,140):=by
 unfold FT;rw [h]
theorem HM{a:Int×Bool}{z:Int}(h1:a.2=decide (r64 z))(h2:r64 z→a.1=z):(if a.2=true then(iV a.1,(0:Int))else(zV,140))=if r64 z then(iV z,0)else(zV,140):=by
 by_cases h:r64 z
 ·rw [h1,yu h,aY rfl,aY h,h2 h]
 ·rw [h1,yw h,aM (by decide),aM h]
theorem VR(ht:tag=12∨tag=13∨tag=14∨tag=15)(hx:r64 x)(hy:r64 y):(if(MT tag x y).2=true then(iV (MT tag x y).1,(0:Int))else(zV,140))=FT tag x y:=by
 have hw: ∀z,r64 z→IntKind.i64.wrap z=z:=fun z h=>by unfold r64 at h;exact cn h.1 h.2
 rcases ht with rfl|rfl|rfl|rfl
 ·rw [po (Wn x y)]
  exact HM (by rw [SF hx hy]) (fun h=>by rw [SF hx hy];exact hw _ h)
 ·rw [po (Wm x y)]
  exact HM (by rw [QG hx hy]) (fun h=>by rw [QG hx hy];exact hw _ h)
 ·rw [po (Wl x y)]
  exact HM (Q9 hx hy).1 (Q9 hx hy).2
 ·by_cases h0:y=0
  ·subst h0
   rw [GA (by rw [Ot,aY rfl])]
   rfl
  ·rw [po (z:=x.tdiv y) (by rw [Ot,aM h0])]
   exact HM (Sc hx hy h0).1 (Sc hx hy h0).2
end Go.Proofs.YtfhhakidodmdfaaGreatDoor

