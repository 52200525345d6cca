/- cP of this claim: K1, K2, K3, K4, L1, L2, L3, M1, M2, M3, M4, M5, M6, M7, M8, M9, M10. -/
import Derived.Test.YtfhhakidodmdfaaGreatDoorJgF
import Derived.KernelRfl
import Derived.Test.YtfhhakidodmdfaaGreatDoorJgV4
set_option linter.all false
namespace Go.Proofs.YtfhhakidodmdfaaGreatDoor
open Go

abbrev cu:=List ac
variable{n:bo}
theorem pF{n:Int}(h: -9223372036854775808≤n)(h2:n≤9223372036854775807):IntKind.i64.wrap n=n:=by
 rw [vN];omega
variable{α:Type}{xs:List α}
theorem co{ys:List α}(h:xs.length+ys.length≤68719476736):app xs ys=some (xs++ys):=aY h
theorem RO{i:Nat}:cN xs (i:Int)=(xs.drop i).head? :=by
 rw [bW,List.head?_drop]
def fH(v:ac):Bool:=(dF v).getD false
variable{v:ac}
theorem fP(v:ac):dF v=some (fH v):=by
 unfold fH dF
 repeat' split
 all_goals rfl
variable{k:Nat}
theorem nT(v:ac):k6 v=some (if fH v then 0 else 120):=by
 obtain⟨k,n,u,s⟩:=v
 unfold fH dF k6 xv
 simp only [ky,p5,pZ,pY]
 by_cases h0:k=0
 ·subst h0;simp
  repeat' split
  all_goals simp_all
 by_cases h1:k=1
 ·subst h1
  by_cases n0:n=0
  ·subst n0;simp
   repeat' split
   all_goals simp_all
  by_cases n1:n=1
  ·subst n1;simp
   repeat' split
   all_goals simp_all
  simp [n0,n1]
 by_cases h2:k=2
 ·subst h2;simp
  repeat' split
  all_goals simp_all
 by_cases h3:k=3
 ·subst h3;simp
  repeat' split
  all_goals simp_all
 by_cases h4:k=4
 ·subst h4;simp
  repeat' split
  all_goals simp_all
 simp [h0,h1,h2,h3,h4]
def kD(r:cu):Bool:=decide (r.length≤16)&&r.all fH
theorem EI(v:ac):rp v=some (!fH v):=by
 unfold rp
 rw [nT]
 cases fH v<;>rfl
variable{f:α→α→Int}{l:List cu}{r:List ac}
theorem CI{f:ac→Option Bool}{g:ac→Bool}(hf: ∀v,f v=some (g v))(l:cu):gc l f=some (l.any g):=by
 have key: ∀(l:cu) (i:Nat),(cH f l i).bind (fun r=>some (decide ((0:Int)≤r)))=some (l.any g):=by
  intro l
  induction l with
  |nil=>intro i;simp [cH]
  |cons e t ih=>intro i;simp only [cH,hf,bf];cases h:g e<;>simp [ih,h]
 exact key l 0
theorem wc(r:cu):sK r=some (kD r):=by
 unfold sK kD
 rw [CI (g:=fun v=> !fH v) EI]
 by_cases h:r.length≤16
 ·rw [aY (by simp;omega)]
  simp [h,List.all_eq_not_any_not]
 ·rw [aL (by simp;omega)]
  simp [h]
theorem Mt{r:cu}(h:kD r=true):r.length≤16:=by
 unfold kD at h
 simp at h
 exact h.1

variable{a:ac}
theorem lD: ∀s:xb,Op.bytesLess s s=false
 |[]=>rfl
 |a::s=>by
  unfold Op.bytesLess
  simp [lD s]
def XY:List Int→Int
 |[]=>0
 |e::t=>if e !=0 then e else XY t
theorem Cx(l:List Int):mY l=some (XY l):=by
 unfold mY
 induction l with
 |nil=>rfl
 |cons e t ih=>simp only [fW,XY];split<;>simp [*]
def val(x y:ac):Int:=(pL x y).getD 0
variable{x y:Int}
theorem EQ(x y:ac):pL x y=some (val x y):=by
 unfold val pL qJ
 repeat' split
 all_goals rfl
theorem O5(p y:Int):iM p y=some (if p<y then -1 else if y<p then 1 else 0):=by
 unfold iM nE
 simp
 repeat' split
 all_goals rfl
theorem Hr(p y:Int):gD p y=some (if p<y then -1 else if y<p then 1 else 0):=by
 unfold gD kV
 simp
 repeat' split
 all_goals rfl
theorem Hq(p y:Int):mZ p y=some (if p<y then -1 else if y<p then 1 else 0):=by
 unfold mZ oL
 simp
 repeat' split
 all_goals rfl
theorem O4(p y:xb):m4 p y=some (if Op.bytesLess p y then -1 else if p=y then 0 else 1):=by
 unfold m4 oM
 by_cases h:p=y
 ·subst h;simp [lD]
 ·cases h2:Op.bytesLess p y<;>simp [h]
theorem zr(x y:ac):pq x y=some (val x y):=by
 unfold pq
 rw [O5,Hr,Hq,O4]
 simp only [bf]
 rw [Cx]
 unfold val pL qJ
 simp only [XY,bf]
 by_cases h1:x.Kind=y.Kind
 ·rw [h1]
  by_cases h2:x.N=y.N
  ·rw [h2]
   by_cases h3:x.U=y.U
   ·rw [h3]
    by_cases h4:x.S=y.S
    ·rw [h4];simp [lD]
    ·cases h5:Op.bytesLess x.S y.S<;>simp [h4]
   ·rcases Int.lt_or_gt_of_ne h3 with h|h
    ·simp [h3,h]
    ·have: ¬x.U<y.U:=by omega
     simp [h3,h,this]
  ·rcases Int.lt_or_gt_of_ne h2 with h|h
   ·simp [h2,h]
   ·have: ¬x.N<y.N:=by omega
    simp [h2,h,this]
 ·rcases Int.lt_or_gt_of_ne h1 with h|h
  ·simp [h1,h]
  ·have: ¬x.Kind<y.Kind:=by omega
   simp [h1,h,this]
def eG:cu→cu→Int
 |[],[]=>0
 |[],_::_=> -1
 |_::_,[]=>1
 |x::a,y::b=>if val x y !=0 then val x y else eG a b
theorem FY(a b:cu):cr a b pq=some (eG a b):=by
 unfold cr
 have key: ∀(l:cu) (i:Nat),a.drop i=l→i≤a.length→bH a b pq l i=some (eG l (b.drop i)):=by
  intro l
  induction l with
  |nil=>
   intro i h1 h2
   have h3:a.length≤i:=F3.1 h1
   simp only [bH]
   by_cases hlt:a.length<b.length
   ·rw [aY (by simp;omega)]
    rw [wV (by omega:i<b.length)];rfl
   ·rw [aL (by simp;omega),AG (by omega)];rfl
  |cons x t ih=>
   intro i h1 h2
   have hi:i<a.length:=by
    rcases m8 i a.length with h|h
    ·exact h
    ·rw [AG h]at h1;cases h1
   simp only [bH]
   have ht:=ih (i+1) (by rw [←pV,h1];rfl) (by omega)
   rcases m8 i b.length with h|h
   ·rw [aL (by simp;omega),bW,oO h,wV h,ht]
    simp only [bf,zr,eG]
    split<;>rfl
   ·rw [aY (by simp;omega),AG h];rfl
 exact key a 0 rfl (lF _)
theorem wd(a b:cu):pI a b=some (eG a b):=by
 unfold pI
 rw [FY a b];rfl
theorem EJ(a b:cu):pJ a b=some (if kD a&&kD b then eG a b else 0):=by
 unfold pJ
 rw [wc,wc,wd]
 cases ha:kD a<;>cases hb:kD b<;>simp
theorem ss(a b:cu):np a b=some (decide (a=b)):=by
 unfold np i7
 by_cases hl:a.length=b.length
 ·rw [aL (by simp [hl])]
  have key: ∀(l:cu) (i:Nat),a.drop i=l→dU b l i=some (decide (l=b.drop i)):=by
   intro l
   induction l with
   |nil=>
    intro i h1
    have h3:a.length≤i:=F3.1 h1
    rw [AG (by omega)];rfl
   |cons x t ih=>
    intro i h1
    have hi:i<a.length:=by
     rcases m8 i a.length with h|h
     ·exact h
     ·rw [AG h]at h1;cases h1
    have ht:=ih (i+1) (by rw [←pV,h1];rfl)
    simp only [dU]
    rw [bW,oO (by omega),wV (by omega:i<b.length)]
    simp only [bf,ht]
    by_cases hx:x=b[i]
    ·rw [aL (by simp [hx])]
     exact congrArg some (CL.2 ⟨fun h=>by rw [hx,h],fun h=>(CM h).2⟩)
    ·rw [aY (by simp [hx])]
     exact congrArg some (xc (fun h=>hx (CM h).1)).symm
  have:=key a 0 rfl
  rw [this];simp
 ·rw [aY (by simp;omega)]
  have:a≠b:=fun e=>hl (by rw [e])
  simp [this]
theorem JV(p q:List cu):A3 p q=some (decide (p=q)):=by
 unfold A3 dY
 by_cases hl:p.length=q.length
 ·rw [aL (by simp [hl])]
  have key: ∀(l:List cu) (i:Nat),p.drop i=l→bZ q np l i=some (decide (l=q.drop i)):=by
   intro l
   induction l with
   |nil=>
    intro i h1
    have h3:p.length≤i:=F3.1 h1
    rw [AG (by omega)];rfl
   |cons x t ih=>
    intro i h1
    have hi:i<p.length:=by
     rcases m8 i p.length with h|h
     ·exact h
     ·rw [AG h]at h1;cases h1
    have ht:=ih (i+1) (by rw [←pV,h1];rfl)
    simp only [bZ]
    rw [bW,oO (by omega),wV (by omega:i<q.length)]
    simp only [bf,ht,ss]
    by_cases hx:x=q[i]
    ·rw [aL (by simp [hx])]
     exact congrArg some (CL.2 ⟨fun h=>by rw [hx,h],fun h=>(CM h).2⟩)
    ·rw [aY (by simp [hx])]
     exact congrArg some (xc (fun h=>hx (CM h).1)).symm
  have:=key p 0 rfl
  rw [this];simp
 ·rw [aY (by simp;omega)]
  have:p≠q:=fun e=>hl (by rw [e])
  simp [this]
theorem CJ(r:cu)(h:r.length≤68719476736):cz r=some r:=by
 unfold cz
 rw [co (by simpa using h)];rfl
theorem zu(l:List cu)(h: ∀r∈l,r.length≤68719476736)(hl:l.length≤68719476736):tf l=some l:=by
 have key: ∀(m out:List cu),(∀r∈m,r.length≤68719476736)→out.length+m.length≤68719476736→nq m out=some (out++m):=by
  intro m
  induction m with
  |nil=>intro out _ _;simp [nq]
  |cons e t ih=>
   intro out h1 h2
   simp only [iN]at h2
   simp only [nq]
   rw [CJ e (h1 e (kO ..))]
   simp only [bf]
   rw [co (by simp;omega)]
   simp only [bf]
   rw [ih _ (fun r hr=>h1 r (kN _ hr)) (by simp;omega)]
   simp
 have:=key l [] h (by simpa using hl)
 simpa [tf] using this

structure Dm{α:Type}(f:α→α→Int):Prop where
 rng: ∀x y,f x y= -1∨f x y=0∨f x y=1
 anti: ∀x y,f y x= -f x y
 eq: ∀x y,f x y=0↔x=y
 trans: ∀x y z,f x y≤0→f y z≤0→f x z≤0
theorem Dm.lt(h:Dm f){x y z:α}(h1:f x y≤0)(h2:f y z≤0)(h3:f x y<0∨f y z<0):f x z<0:=by
 have h4:=h.trans x y z h1 h2
 rcases h.rng x z with h5|h5|h5
 ·omega
 ·have e:=(h.eq x z).1 h5
  subst e
  have:=h.anti x y
  omega
 ·omega
def Jo(c d:Int):Int:=if c !=0 then c else d
theorem Dm.lex{β:Type}{g:β→β→Int}(hf:Dm f)(hg:Dm g):Dm (fun(p q:α×β)=>Jo (f p.1 q.1) (g p.2 q.2)) where
 rng:=fun x y=>by
  unfold Jo
  split
  ·exact hf.rng _ _
  ·exact hg.rng _ _
 anti:=fun x y=>by
  have h1:=hf.anti x.1 y.1
  have h2:=hg.anti x.2 y.2
  unfold Jo
  by_cases h:f x.1 y.1=0
  ·have:f y.1 x.1=0:=by omega
   simp [h,this,h2]
  ·have:f y.1 x.1≠0:=by omega
   simp [h,h1]
 eq:=fun x y=>by
  unfold Jo
  by_cases h:f x.1 y.1=0
  ·have e:=(hf.eq _ _).1 h
   simp only [h,DX,fL,d7]
   rw [hg.eq]
   exact⟨fun h2=>Prod.ext e h2,fun h2=>by rw [h2]⟩
  ·simp only [qD,oU,h,CP,ep,false_iff]
   intro e
   exact h ((hf.eq _ _).2 (by rw [e]))
 trans:=fun x y z=>by
  unfold Jo
  by_cases h1:f x.1 y.1=0
  ·have e:=(hf.eq _ _).1 h1
   simp only [h1,DX,fL,d7]
   rw [←e]
   by_cases h2:f x.1 z.1=0
   ·simp only [h2,DX,fL,d7]
    exact hg.trans _ _ _
   ·simp only [qD,oU,h2,CP,ep]
    exact fun _ h=>h
  ·simp only [qD,oU,h1,CP,ep]
   by_cases h2:f y.1 z.1=0
   ·have e:=(hf.eq _ _).1 h2
    have h5:f x.1 z.1≠0:=by rw [←e];exact h1
    simp only [h5,CP,ep]
    intro h _
    rw [←e];exact h
   ·simp only [h2,CP,ep]
    intro h3 h4
    have:=hf.lt h3 h4 (by omega)
    simp only [show f x.1 z.1≠0 from by omega,CP,ep]
    omega
def Ll(p y:Int):Int:=if p<y then -1 else if y<p then 1 else 0
theorem ni:Dm Ll where
 rng:=fun x y=>by
  unfold Ll
  repeat' split
  all_goals omega
 anti:=fun x y=>by unfold Ll;repeat' split;all_goals omega
 eq:=fun x y=>by
  unfold Ll
  constructor
  ·intro h;repeat' split at h
   all_goals omega
  ·intro h;subst h;simp
 trans:=fun x y z=>by
  unfold Ll
  repeat' split
  all_goals omega
theorem zF: ∀a b:xb,Op.bytesLess a b=false→Op.bytesLess b a=false→a=b
 |[],[],_,_=>rfl
 |[],_::_,h,_=>by simp [Op.bytesLess]at h
 |_::_,[],_,h=>by simp [Op.bytesLess]at h
 |x::a,y::b,h,k=>by
  simp only [Op.bytesLess,Bool.or_eq_false_iff,F4,Bool.and_eq_false_imp,sY]at h k
  have e:x=y:=by
   have h1:=h.1
   have h2:=k.1
   exact UInt8.le_antisymm (UInt8.not_lt.1 h2) (UInt8.not_lt.1 h1)
  subst e
  rw [zF a b (h.2 rfl) (k.2 rfl)]
theorem sa: ∀a b c:xb,Op.bytesLess a b=true→Op.bytesLess b c=true→Op.bytesLess a c=true
 |_,[],_,h,_=>by cases ‹List UInt8› <;>simp [Op.bytesLess]at h
 |_,_::_,[],_,h=>by simp [Op.bytesLess]at h
 |[],_::_,_::_,_,_=>rfl
 |x::a,y::b,z::c,h,k=>by
  simp only [Op.bytesLess,pW,kX,mi,sY]at h k ⊢
  rcases h with h|⟨h1,h2⟩
  ·rcases k with k|⟨k1,_⟩
   ·exact .inl (UInt8.lt_trans h k)
   ·subst k1;exact .inl h
  ·subst h1
   rcases k with k|⟨k1,k2⟩
   ·exact .inl k
   ·exact .inr ⟨k1,sa a b c h2 k2⟩
def Qq(p y:xb):Int:=if Op.bytesLess p y then -1 else if p=y then 0 else 1
theorem FF{a b:xb}(h:Op.bytesLess a b=true):Op.bytesLess b a=false:=by
 cases k:Op.bytesLess b a with
 |false=>rfl
 |true=>have:=sa a b a h k;rw [lD]at this;cases this
theorem BH:Dm Qq where
 rng:=fun x y=>by
  unfold Qq
  split
  ·exact .inl rfl
  split
  ·exact .inr (.inl rfl)
  ·exact .inr (.inr rfl)
 anti:=fun x y=>by
  unfold Qq
  cases h:Op.bytesLess x y with
  |true=>
   have h2:=FF h
   have:y≠x:=fun e=>by rw [e,lD]at h;cases h
   simp [h2,this]
  |false=>
   cases k:Op.bytesLess y x with
   |true=>
    have:x≠y:=fun e=>by rw [e,lD]at k;cases k
    simp [this]
   |false=>have:=zF x y h k;simp [this]
 eq:=fun x y=>by
  unfold Qq
  constructor
  ·intro h;repeat' split at h
   all_goals simp_all
  ·intro h;subst h;simp [lD]
 trans:=fun x y z=>by
  unfold Qq
  intro h1 h2
  cases hxy:Op.bytesLess x y with
  |true=>
   cases hyz:Op.bytesLess y z with
   |true=>simp [sa x y z hxy hyz]
   |false=>
    rw [hyz]at h2
    by_cases e:y=z
    ·subst e;simp [hxy]
    ·simp [e]at h2
  |false=>
   rw [hxy]at h1
   by_cases e:x=y
   ·subst e;exact h2
   ·simp [e]at h1
def key(v:ac):Int×Int×Int×xb:=(v.Kind,v.N,v.U,v.S)
theorem ZL(a b c d:Int):XY [a,b,c,d]=Jo a (Jo b (Jo c d)):=by
 simp only [XY,Jo]
 by_cases h:d=0
 ·simp [h]
 ·simp [h]
theorem s9(x y:ac):val x y=Jo (Ll x.Kind y.Kind) (Jo (Ll x.N y.N) (Jo (Ll x.U y.U) (Qq x.S y.S))):=by
 have h:=zr x y
 unfold pq at h
 rw [O5,Hr,Hq,O4]at h
 simp only [bf]at h
 rw [Cx]at h
 simp only [bf,AN]at h
 rw [←h,ZL]
 rfl
theorem sk:Dm val where
 rng:=fun x y=>by rw [s9];exact(ni.lex (ni.lex (ni.lex BH))).rng (key x) (key y)
 anti:=fun x y=>by rw [s9,s9];exact(ni.lex (ni.lex (ni.lex BH))).anti (key x) (key y)
 eq:=fun x y=>by
  rw [s9]
  refine((ni.lex (ni.lex (ni.lex BH))).eq (key x) (key y)).trans ⟨fun h=>?_,fun h=>by rw [h]⟩
  cases x;cases y
  simp only [key,Prod.mk.injEq]at h
  simp [h]
 trans:=fun x y z=>by rw [s9,s9,s9];exact(ni.lex (ni.lex (ni.lex BH))).trans (key x) (key y) (key z)
theorem je:Dm eG where
 rng:=by
  intro x
  induction x with
  |nil=>intro y;cases y<;>simp [eG]
  |cons a x ih=>
   intro y
   cases y with
   |nil=>simp [eG]
   |cons b y=>
    simp only [eG]
    split
    ·exact sk.rng a b
    ·exact ih y
 anti:=by
  intro x
  induction x with
  |nil=>intro y;cases y<;>simp [eG]
  |cons a x ih=>
   intro y
   cases y with
   |nil=>simp [eG]
   |cons b y=>
    simp only [eG]
    have h:=sk.anti a b
    by_cases h1:val a b=0
    ·have h2:val b a=0:=by omega
     simp [h1,h2,ih y]
    ·have h2:val b a≠0:=by omega
     simp [h1,h]
 eq:=by
  intro x
  induction x with
  |nil=>intro y;cases y<;>simp [eG]
  |cons a x ih=>
   intro y
   cases y with
   |nil=>simp [eG]
   |cons b y=>
    simp only [eG]
    by_cases h1:val a b=0
    ·have e:=(sk.eq a b).1 h1
     subst e
     simp [h1,ih y]
    ·have e:a≠b:=fun e=>h1 ((sk.eq a b).2 e)
     simp [h1,e]
 trans:=by
  intro x
  induction x with
  |nil=>intro y z;cases y<;>cases z<;>simp [eG]
  |cons a x ih=>
   intro y z
   cases y with
   |nil=>simp [eG]
   |cons b y=>
    cases z with
    |nil=>simp [eG]
    |cons c z=>
     simp only [eG]
     by_cases h1:val a b=0
     ·have e:=(sk.eq a b).1 h1
      subst e
      by_cases h2:val a c=0
      ·simp [h1,h2];exact ih y z
      ·simp [h1,h2]
     ·by_cases h2:val b c=0
      ·have e:=(sk.eq b c).1 h2
       subst e
       simp only [h1,h2,qD,oU,CP,ep]
       simp only [GD,d7]
       exact fun h _=>h
      ·simp only [h1,h2,qD,oU,CP,ep]
       intro h3 h4
       have:=sk.lt h3 h4 (by omega)
       rw [aY (by omega)]
       omega

section
def Tn(f:α→α→Int)(x y:α):Bool:=decide (f x y<0)
theorem Dm.self(h:Dm f)(x:α):f x x=0:=(h.eq x x).2 rfl
def sG(f:α→α→Int)(l:List α):Prop:=l.Pairwise (fun a b=>f a b≤0)
theorem zn(h:Dm f){a b:List α}(ha:sG f a)(hb:sG f b)(hp:a.Perm b):a=b:=
 List.Perm.eq_of_pairwise (le:=fun x y=>f x y≤0) (fun x y _ _ h1 h2=>(h.eq x y).1 (by have:=h.anti x y;omega)) ha hb hp
theorem yi(h:Dm f){c:α×α→Option Int}(hc: ∀x y,c (x,y)=some (f x y)){l:List α}(hl:l.length≤1099511627776):Ay c l:=by
 have hlt: ∀x y,uU c x y=Tn f x y:=fun x y=>by unfold uU Tn;rw [hc]
 refine⟨hl,fun x _ y _=>by rw [hc];rfl,fun x _=>by rw [hlt];unfold Tn;rw [h.self];rfl,fun x _ y _ z _ h1 h2=>?_,fun x _ y _ h1 h2=>?_⟩
 ·rw [hlt]at*
  unfold Tn at*
  have h1' :=Js h1
  have h2' :=Js h2
  exact y5 (h.lt (by omega) (by omega) (.inl h1'))
 ·rw [hlt]at*
  unfold Tn at*
  have h1' :=of_decide_eq_false h1
  have h2' :=of_decide_eq_false h2
  have:=h.anti x y
  exact(h.eq x y).1 (by omega)
def uP(f:α→α→Int)(l:List α):List α:=zB (Tn f) l
theorem nW(f:α→α→Int)(l:List α):(uP f l).Perm l:=tG _ l
theorem zW(h:Dm f)(l:List α)(hl:l.length≤1099511627776):sG f (uP f l):=by
 have hg:=yi h (c:=fun p=>some (f p.1 p.2)) (fun _ _=>rfl) hl
 have:=wm hg l (fun y hy=>hy)
 have e:uU (fun p:α×α=>some (f p.1 p.2))=Tn f:=by funext x y;rfl
 rw [e]at this
 refine this.imp fun{a b} hab=>?_
 unfold Tn at hab
 have h1:=of_decide_eq_false hab
 have:=h.anti b a
 omega
theorem PC [DecidableEq α](h:Dm f){c:α×α→Option Int}(hc: ∀x y,c (x,y)=some (f x y)){l:List α}(hl:l.length≤1099511627776):zp c l=some (uP f l):=by
 rw [Eo (yi h hc hl)]
 have e:uU c=Tn f:=by funext x y;unfold uU Tn;rw [hc]
 rw [e];rfl
def put(f:α→α→Int)(x:α):List α→List α
 |[]=>[x]
 |y::l=>if f x y<0 then x::y::l else y::put f x l
theorem vY(f:α→α→Int)(l:List α):(uP f l).length=l.length:=(nW f l).length_eq
end
def tS{α:Type} [DecidableEq α]:α→List α→List α
 |_,[]=>[]
 |p,x::t=>if x=p then tS x t else x::tS x t
theorem BF [DecidableEq α](p:α):tS p []=[]:=by unfold tS;rfl
theorem yP [DecidableEq α]{p x:α}(h:x=p)(t:List α):tS p (x::t)=tS x t:=by
 conv=>lhs;unfold tS
 rw [aY h]
theorem DQ [DecidableEq α]{p x:α}(h: ¬x=p)(t:List α):tS p (x::t)=x::tS x t:=by
 conv=>lhs;unfold tS
 rw [aL h]
def uJ{α:Type} [DecidableEq α]:List α→List α
 |[]=>[]
 |x::t=>x::tS x t
theorem Lh{α:Type} [DecidableEq α]: ∀(p:α) (l:List α),(tS p l).length≤l.length
 |_,[]=>dy _
 |p,x::t=>by
  unfold tS
  have:=Lh x t
  split<;>simp<;>omega
theorem Qn [DecidableEq α](l:List α):(uJ l).length≤l.length:=by
 cases l with
 |nil=>exact dy _
 |cons x t=>have:=Lh x t;simp [uJ];omega
theorem FD{α:Type} [DecidableEq α]: ∀(p:α) (l:List α) (z:α),z∈tS p l→z∈l
 |p,x::t,z,h=>by
  unfold tS at h
  split at h
  ·exact kN _ (FD x t z h)
  ·rcases fk.1 h with rfl|h
   ·exact kO ..
   ·exact kN _ (FD x t z h)
theorem E7{α:Type} [DecidableEq α]: ∀(p:α) (l:List α) (z:α),z∈l→z=p∨z∈tS p l
 |p,x::t,z,h=>by
  unfold tS
  by_cases hx:x=p
  ·rw [aY hx]
   rcases fk.1 h with rfl|h
   ·exact .inl hx
   ·rcases E7 x t z h with h|h
    ·exact .inl (h.trans hx)
    ·exact .inr h
  ·rw [aL hx]
   rcases fk.1 h with rfl|h
   ·exact .inr (kO ..)
   ·rcases E7 x t z h with h|h
    ·exact .inr (by rw [h];exact kO ..)
    ·exact .inr (kN _ h)
theorem yG [DecidableEq α](l:List α)(z:α):z∈uJ l↔z∈l:=by
 cases l with
 |nil=>exact Iff.rfl
 |cons x t=>
  constructor
  ·intro h
   rcases fk.1 h with rfl|h
   ·exact kO ..
   ·exact kN _ (FD x t z h)
  ·intro h
   rcases fk.1 h with rfl|h
   ·exact kO ..
   ·rcases E7 x t z h with rfl|h
    ·exact kO ..
    ·exact kN _ h
theorem yb{α:Type} [DecidableEq α]{f:α→α→Int}(hf:Dm f): ∀(p:α) (l:List α),sG f (p::l)→(p::tS p l).Pairwise (fun a b=>f a b<0)
 |p,[],_=>List.pairwise_singleton _ _
 |p,x::t,h=>by
  have h1:=BX.1 h
  unfold tS
  by_cases hx:x=p
  ·rw [aY hx]
   subst hx
   exact yb hf x t h1.2
  ·rw [aL hx]
   have h2:=yb hf x t h1.2
   have hlt:f p x<0:=by
    have:=h1.1 x (kO ..)
    rcases Int.lt_or_eq_of_le this with h|h
    ·exact h
    ·exact absurd ((hf.eq p x).1 h).symm hx
   refine BX.2 ⟨fun z hz=>?_,h2⟩
   rcases fk.1 hz with rfl|hz
   ·exact hlt
   ·exact hf.lt (by omega) (by have:=(BX.1 h2).1 z hz;omega) (.inl hlt)
theorem I9 [DecidableEq α](hf:Dm f){l:List α}(h:sG f l):(uJ l).Pairwise (fun a b=>f a b<0):=by
 cases l with
 |nil=>exact List.Pairwise.nil
 |cons x t=>exact yb hf x t h

abbrev ack:=je
def RC(n:Nat):Int:=if 8000<n then 3 else 0
def Uf:List (List cu)→Nat→Nat
 |[],n=>n
 |l::t,n=>Uf t (max n l.length)
def o7(l:List cu):Bool:=l.all kD
def XP(ls:List (List cu)):Int:=if ls.all o7 then RC (Uf ls 0)else 150
theorem sr(ls:List (List cu)):sL ls=some (XP ls):=by
 have key2: ∀(l:List cu) (nx:Int→Option Int) (e:List cu) (n:Int),p8 nx e n l=if o7 l then nx (max n (e.length:Int))else some 150:=by
  intro l
  induction l with
  |nil=>intro nx e n;rfl
  |cons r t ih=>
   intro nx e n
   have ih' :=ih nx e n
   unfold p8
   rw [wc]
   simp only [bf]
   rw [ih']
   unfold o7
   cases h:kD r<;>simp [h]
 have key: ∀(ls:List (List cu)) (n:Nat),lg ls (n:Int)=some (if ls.all o7 then RC (Uf ls n)else 150):=by
  intro ls
  induction ls with
  |nil=>
   intro n
   show lg [] (n:Int)=some (RC n)
   unfold lg RC
   by_cases h:8000<n
   ·rw [aY (by simp;omega),aY h]
   ·rw [aL (by simp;omega),aL h]
  |cons l t ih=>
   intro n
   unfold lg
   rw [key2,show max (n:Int) (l.length:Int)=((max n l.length:Nat):Int)from by omega,ih]
   show _=some (if(o7 l&&t.all o7)=true then RC (Uf t (max n l.length))else 150)
   cases h:o7 l<;>simp
 exact key ls 0
theorem KD{n:Nat}(h:n≤8000):RC n=0:=by unfold RC;rw [aL (by omega)]
theorem HV(l:List cu)(h:l.length≤8000):XP [l]=if o7 l then 0 else 150:=by
 show(if(o7 l&&true)=true then RC (max 0 l.length)else 150)=_
 rw [KD (by omega),wH]
theorem TB(a b:List cu)(ha:a.length≤8000)(hb:b.length≤8000):XP [a,b]=if o7 a&&o7 b then 0 else 150:=by
 show(if(o7 a&&(o7 b&&true))=true then RC (max (max 0 a.length) b.length)else 150)=_
 rw [KD (by omega),wH]
structure BM(l:List cu):Prop where
 len:l.length≤8000
 row: ∀r∈l,r.length≤1000
abbrev wX(l:List cu):List cu:=uP eG l
theorem zt(h:BM l):te l=some (wX l):=by
 unfold te
 rw [zu l (fun r hr=>by have:=h.row r hr;omega) (by have:=h.len;omega)]
 simp only [bf]
 rw [PC ack (fun x y=>wd x y) (by have:=h.len;omega)]
 rfl
theorem zw(h:BM l):tg l=some (if o7 l then(wX l,0)else([],150)):=by
 unfold tg
 rw [sr,HV l h.len,zt h]
 cases o7 l<;>rfl
theorem cq{n:Int}(h: -9223372036854775808≤n)(h2:n≤9223372036854775807):IntKind.i64.wrap n=n:=by rw [vN];omega
theorem lN{l m:Nat}(h:l≤m)(h2:m≤xs.length):dA xs (l:Int) (m:Int)=some ((xs.take m).drop l):=by
 unfold dA
 rw [aY (by omega)]
 simp
theorem No(p:List cu)(hp:p.length≤8000)(i:Nat)(y:List cu)(hy:i+y.length=p.length): ∀(k i1:Nat) (x:List cu) (x1:Nat),i1+k=y.length→0<i1→x.length=p.length→x1+1≤i+i1→x.drop (i+i1-1)=p.drop (i+i1-1)→
  ci np i y k i1 x (x1:Int)=some (x.take x1++tS ((p[i+i1-1]?).getD []) (p.drop (i+i1))):=by
 intro k
 induction k with
 |zero=>
  intro i1 x x1 h1 h0 hx h2 h3
  simp only [ci]
  have hx1:x1≤x.length:=by omega
  rw [lN hx1 (dy _)]
  simp only [bf,xm,AE]
  rw [show((0:Int))=((0:Nat):Int)from rfl,lN (lF _) (by simp;omega)]
  simp only [bf,y4]
  have hn:p.drop (i+i1)=[]:=AG (by omega)
  rw [hn,BF,rn,Do (by simp;omega),BV,Nat.min_self]
 |succ k ih=>
  intro i1 x x1 h1 h0 hx h2 h3
  have e1:x[i+i1]? =p[i+i1]? :=by
   have:=congrArg (fun l:List cu=>l[1]?) h3
   simp only [wU]at this
   rwa [show i+i1-1+1=i+i1 from by omega]at this
  have e0:x[i+i1-1]? =p[i+i1-1]? :=by
   have:=congrArg (fun l:List cu=>l[0]?) h3
   simpa only [wU,yZ] using this
  have hlt:i+i1<p.length:=by omega
  have g1:xT x (i:Int) y.length (i1:Int)=some p[i+i1]:=by
   unfold xT
   rw [aY (by omega),show(i:Int)+(i1:Int)=((i+i1:Nat):Int)from by omega,bW,e1,oO hlt]
  have g0:xT x (i:Int) y.length (IntKind.i64.wrap ((i1:Int)-1))=some p[i+i1-1]:=by
   rw [cq (by omega) (by omega)]
   unfold xT
   rw [aY (by omega),show(i:Int)+((i1:Int)-1)=((i+i1-1:Nat):Int)from by omega,bW,e0,oO (by omega)]
  have hd:p.drop (i+i1)=p[i+i1]::p.drop (i+i1+1):=wV hlt
  have hp1:(p[i+i1-1]?).getD []=p[i+i1-1]:=by rw [oO (by omega)];rfl
  simp only [ci,g1,g0,bf,ss]
  rw [hd,hp1]
  by_cases hx2:p[i+i1]=p[i+i1-1]
  ·rw [aL (by simp [hx2])]
   have h3' :x.drop (i+(i1+1)-1)=p.drop (i+(i1+1)-1):=by
    have:=congrArg (List.drop 1) h3
    rwa [pV,pV,show i+i1-1+1=i+(i1+1)-1 from by omega]at this
   rw [ih (i1+1) x x1 (by omega) (by omega) hx (by omega) h3']
   rw [yP hx2,show i+(i1+1)-1=i+i1 from by omega,oO hlt,show i+(i1+1)=i+i1+1 from by omega]
   rfl
  ·rw [aY (by simp [hx2]),bW,oO (by omega)]
   simp only [bf,AE]
   rw [cq (by omega) (by omega),show((x1:Int)+1)=((x1+1:Nat):Int)from by omega]
   have h3' :(x.set x1 p[i+i1]).drop (i+(i1+1)-1)=p.drop (i+(i1+1)-1):=by
    rw [List.drop_set_of_lt (by omega)]
    have:=congrArg (List.drop 1) h3
    rwa [pV,pV,show i+i1-1+1=i+(i1+1)-1 from by omega]at this
   rw [ih (i1+1) _ (x1+1) (by omega) (by omega) (by simpa using hx) (by omega) h3']
   rw [DQ hx2,show i+(i1+1)-1=i+i1 from by omega,oO hlt,show i+(i1+1)=i+i1+1 from by omega]
   have ht:(x.set x1 p[i+i1]).take (x1+1)=x.take x1++[p[i+i1]]:=by
    rw [Jv (by simp;omega),List.take_set_of_le (by omega)]
    simp
   rw [ht]
   simp
theorem Np(p:List cu)(hp:p.length≤8000):eS p np=some (uJ p):=by
 unfold eS
 by_cases h2:p.length<2
 ·rw [aY (by simp;omega)]
  match p,h2 with
  |[],_=>rfl
  |[x],_=>rfl
 ·rw [aL (by simp;omega)]
  have key: ∀(l:List cu) (i:Nat),p.drop i=l→0<i→i≤p.length→uJ p=p.take i++tS ((p[i-1]?).getD []) (p.drop i)→cI p np l i=some (uJ p):=by
   intro l
   induction l with
   |nil=>
    intro i h1 h0 hle h3
    have:=F3.1 h1
    simp only [cI]
    rw [h3,h1,sf (by omega),BF,rn]
   |cons x t ih=>
    intro i h1 h0 hle h3
    have hi:i<p.length:=by
     rcases m8 i p.length with h|h
     ·exact h
     ·rw [AG h]at h1;cases h1
    have hx:x=p[i]:=by rw [wV hi]at h1;exact(CM h1).1.symm
    have ht:p.drop (i+1)=t:=by rw [←pV,h1];rfl
    have hp1:(p[i-1]?).getD []=p[i-1]:=by rw [oO (by omega)];rfl
    simp only [cI]
    rw [cq (by omega) (by omega),show(i:Int)-1=((i-1:Nat):Int)from by omega,bW,oO (by omega)]
    simp only [bf,ss]
    by_cases he:x=p[i-1]
    ·rw [aY (by simp [he])]
     rw [lN hle (dy _)]
     simp only [bf,xm]
     rw [No p hp i (p.drop i) (by simp;omega) _ 1 p i (by simp;omega) (by omega) rfl (by omega) (by simp)]
     rw [h3,h1,hp1,yP he,←ht,hx]
     rw [show i+1-1=i from by omega,oO hi];rfl
    ·rw [aL (by simp [he])]
     refine ih (i+1) ht (by omega) (by omega) ?_
     rw [h3,h1,hp1,DQ he,Jv hi,←ht,hx,show i+1-1=i from by omega,oO hi]
     rw [jG];rfl
  have hpc:p=p[0]::p.drop 1:=by
   have:=wV (l:=p) (i:=0) (by omega)
   simpa using this
  refine key (p.drop 1) 1 rfl (by omega) (by omega) ?_
  have e:(p[1-1]?).getD []=p[0]:=by simp [oO (show 0<p.length by omega)]
  rw [e]
  conv=>lhs;rw [hpc]
  have e2:p.take 1=[p[0]]:=by
   conv=>lhs;rw [hpc]
   rfl
  rw [e2];rfl
theorem Dt(h:BM l):su l=some (if o7 l then(uJ (wX l),0)else([],150)):=by
 unfold su
 rw [sr,HV l h.len,zt h]
 simp only [bf]
 rw [Np _ (by rw [vY];exact h.len)]
 cases o7 l<;>rfl

theorem Wl(n:Int)(h0:0≤n)(h:n≤68719476736):hX n=some []:=by
 unfold hX i6
 rw [aL (by simp;omega)]
 have e:IntKind.i64.wrap (n-IntKind.i64.wrap ((0:Int)-0))=n:=by
  rw [cq (n:=(0:Int)-0) (by omega) (by omega),cq (by omega) (by omega)];omega
 rw [e]
 by_cases hp:0<n
 ·rw [aY (by simpa using hp)]
  unfold WG nQ
  rw [aY hp]
  simp only [bf]
  rw [aY ⟨h0,h⟩]
  simp only [bf]
  rw [show dA (List.replicate n.toNat ([]:cu)) 0 0=some []from by unfold dA;rw [aY (by simp;omega)];simp]
  rfl
 ·rw [aL (by simpa using hp)];rfl
theorem FW(a b:List cu)(ha:a.length≤8000)(hb:b.length≤8000):dR [a,b]=some (a++b):=by
 unfold dR
 simp only [fC]
 rw [cq (n:=(0:Int)+(a.length:Int)) (by omega) (by omega),aL (by simp),cq (by omega) (by omega),aL (by simp;omega),Wl _ (by omega) (by omega)]
 simp only [bf,fz]
 rw [co (by simp;omega)]
 simp only [bf,jY]
 rw [co (by omega)]
 rfl
theorem Gc{a b:List cu}(ha:BM a)(hb:BM b)(hab:a.length+b.length≤8000):yw [a,b]=some (if o7 a&&o7 b then(wX (a++b),0)else([],150)):=by
 unfold yw
 rw [sr,TB a b ha.len hb.len,FW a b ha.len hb.len]
 simp only [bf]
 have hs:BM (a++b):=⟨by simp;omega,fun r hr=>(vM.1 hr).elim (ha.row r) (hb.row r)⟩
 rw [zw hs]
 have e:o7 (a++b)=(o7 a&&o7 b):=by simp [o7]
 rw [e]
 cases o7 a<;>cases o7 b<;>rfl

theorem lO{i j:Int}(l m:Nat)(hi:i=(l:Int))(hj:j=(m:Int))(h:l≤m)(h2:m≤xs.length):dA xs i j=some ((xs.take m).drop l):=by
 subst hi hj;exact lN h h2
theorem gO{i:Int}(k:Nat)(hi:i=(k:Int)):cN xs i=xs[k]? :=by subst hi;exact bW _ _
def mM(v:ac):Bool:=fH v&&(v.Kind !=4)
theorem s8(v:ac):ml v=some (mM v):=by
 unfold ml mM
 rw [nT]
 cases fH v<;>simp
theorem jp(v:ac):mo v=some (mM v):=by
 unfold mo mM
 rw [fP]
 rfl
theorem Ki(h:mM v=true):0≤v.Kind∧v.Kind≤3:=by
 obtain⟨k,n,u,s⟩:=v
 unfold mM fH dF at h
 simp only [mi,qD,oU]at h
 obtain⟨h1,h2⟩:=h
 by_cases h0:k=0
 ·simp [h0]
 by_cases k1:k=1
 ·simp [k1]
 by_cases k2:k=2
 ·simp [k2]
 by_cases k3:k=3
 ·simp [k3]
 simp [h0,k1,k2,k3,h2]at h1
def pk(tag:Int):Option Nat:=if tag=1∨tag=2 then some 0 else if 4≤tag∧tag≤7 then some 1 else if 12≤tag∧tag≤23 then some 2 else none
def Iq(tag:Int):Int:=match pk tag with
 |some k=>(k:Int)
 |none=> -1
variable{tag:Int}
theorem zD(tag:Int):pC tag=some (Iq tag):=by
 unfold pC Iq pk
 by_cases h1:tag=1∨tag=2
 ·rw [aY h1,aY (by simpa using h1)];rfl
 rw [aL h1,aL (by simpa using h1)]
 by_cases h2:4≤tag∧tag≤7
 ·rw [aY h2,aY (by simpa using h2)];rfl
 rw [aL h2,aL (by simpa using h2)]
 by_cases h3:12≤tag∧tag≤23
 ·rw [aY h3,aY (by simpa using h3)];rfl
 rw [aL h3,aL (by simpa using h3)]
theorem qa(tag:Int):xE tag=some (Iq tag):=by
 unfold xE C1 Iq pk
 by_cases h1:tag=1∨tag=2
 ·rw [aY h1];rcases h1 with rfl|rfl<;>rfl
 rw [aL h1]
 by_cases h2:4≤tag∧tag≤7
 ·rw [aY h2]
  have:tag=4∨tag=5∨tag=6∨tag=7:=by omega
  rcases this with rfl|rfl|rfl|rfl<;>rfl
 rw [aL h2]
 by_cases h3:12≤tag∧tag≤23
 ·rw [aY h3,aL (by simp;omega),aL (by simp;omega),aL (by simp;omega),aL (by simp;omega)];rfl
 rw [aL h3]
 by_cases h4:tag=3∨(8≤tag∧tag≤11)
 ·rw [aY (by simpa using h4)]
 rw [aL (by simpa using h4),aY (by simp;omega)]
 rfl
def Jn(n:bo):Bool:=(mJ n).getD false
theorem jH(n:bo):mJ n=some (Jn n):=by
 unfold Jn mJ
 rw [jp]
 split
 ·rfl
 ·split<;>rfl
theorem Fu(n:bo):uE n=some (Jn n):=by
 rw [←jH]
 unfold uE mJ
 rw [jp,s8]
inductive Tr where
 |lf (n:bo)
 |un (n:bo) (a:Tr)
 |bi (n:bo) (a b:Tr)
 deriving Inhabited
def Tr.size:Tr→Nat
 | .lf _=>1
 | .un _ a=>a.size+1
 | .bi _ a b=>a.size+b.size+1
def gX(n:bo)(l r:Int):bo:={n with L:=l,R:=r}
def Tr.flat:Tr→Nat→List bo
 | .lf n,_=>[gX n (-1) (-1)]
 | .un n a,s=>a.flat s++[gX n ((s+a.size:Nat)-1) (-1)]
 | .bi n a b,s=>a.flat s++b.flat (s+a.size)++[gX n ((s+a.size:Nat)-1) ((s+a.size+b.size:Nat)-1)]
def X3(k:Nat)(n:bo):Prop:=pk n.Tag=some k∧Jn n=true∧n.L= -1∧n.R= -1
def Tr.wf:Tr→Prop
 | .lf n=>X3 0 n
 | .un n a=>X3 1 n∧a.wf
 | .bi n a b=>X3 2 n∧a.wf∧b.wf
theorem Tr.size_pos(t:Tr):0<t.size:=by cases t<;>simp [Tr.size]
theorem Tr.flat_len(t:Tr): ∀s,(t.flat s).length=t.size:=by
 induction t with
 |lf n=>intro s;rfl
 |un n a ih=>intro s;simp [Tr.flat,Tr.size,ih]
 |bi n a b iha ihb=>intro s;simp [Tr.flat,Tr.size,iha,ihb];omega
def ce:List Tr→Nat
 |[]=>0
 |t::st=>ce st+t.size
def wN:List Tr→List bo
 |[]=>[]
 |t::st=>wN st++t.flat (ce st)
theorem Hh: ∀st:List Tr,(wN st).length=ce st
 |[]=>rfl
 |t::st=>by simp [wN,ce,Hh st,t.flat_len]
theorem GT: ∀st:List Tr,st.length≤ce st
 |[]=>dy _
 |t::st=>by have:=GT st;have:=t.size_pos;simp [ce];omega
def push(st:List Tr)(n:bo):Option (List Tr):=
 match pk n.Tag,st with
 |some 0,st=>if Jn n&&n.L== -1&&n.R== -1 then some (.lf (gX n (-1) (-1))::st)else none
 |some 1,a::st=>if Jn n&&n.L==((ce st+a.size:Nat):Int)-1&&n.R== -1 then some (.un (gX n (-1) (-1)) a::st)else none
 |some 2,b::a::st=>if Jn n&&n.L==((ce st+a.size:Nat):Int)-1&&n.R==((ce st+a.size+b.size:Nat):Int)-1 then some (.bi (gX n (-1) (-1)) a b::st)else none
 |_,_=>none
def pM:List bo→List Tr→Option (List Tr)
 |[],st=>some st
 |n::ns,st=>(push st n).bind (pM ns)
def wfs(st:List Tr):Prop:= ∀t∈st,t.wf
theorem yA{l r:Int}(h:n.L=l)(h2:n.R=r):gX (gX n (-1) (-1)) l r=n:=by subst h h2;rfl
theorem PK{st st' :List Tr}(h:push st n=some st')(hw:wfs st):wN st' =wN st++[n]∧ce st' =ce st+1∧wfs st' :=by
 unfold push at h
 split at h
 ·rename_i k st0 hk
  split at h
  ·rename_i hc
   simp only [mi,sY]at hc
   obtain⟨⟨h1,h2⟩,h3⟩:=hc
   cases h
   refine⟨?_,rfl,fun t ht=>?_⟩
   ·simp only [wN,Tr.flat]
    rw [yA h2 h3]
   ·rcases fk.1 ht with rfl|ht
    ·exact⟨hk,h1,rfl,rfl⟩
    ·exact hw t ht
  ·cases h
 ·rename_i k a st0 hk
  split at h
  ·rename_i hc
   simp only [mi,sY]at hc
   obtain⟨⟨h1,h2⟩,h3⟩:=hc
   cases h
   refine⟨?_,by simp [ce,Tr.size];omega,fun t ht=>?_⟩
   ·simp only [wN,Tr.flat]
    rw [yA h2 h3,jG]
   ·rcases fk.1 ht with rfl|ht
    ·exact⟨⟨hk,h1,rfl,rfl⟩,hw a (kO ..)⟩
    ·exact hw t (kN _ ht)
  ·cases h
 ·rename_i k b a st0 hk
  split at h
  ·rename_i hc
   simp only [mi,sY]at hc
   obtain⟨⟨h1,h2⟩,h3⟩:=hc
   cases h
   refine⟨?_,by simp [ce,Tr.size];omega,fun t ht=>?_⟩
   ·simp only [wN,Tr.flat,ce]
    rw [yA h2 h3]
    simp only [jG]
   ·rcases fk.1 ht with rfl|ht
    ·exact⟨⟨hk,h1,rfl,rfl⟩,hw a (kN _ (kO ..)),hw b (kO ..)⟩
    ·exact hw t (kN _ (kN _ ht))
  ·cases h
 ·cases h
variable{ns:List bo}
theorem Ac: ∀{ns:List bo} {st st' :List Tr},pM ns st=some st' →wfs st→wN st' =wN st++ns∧wfs st'
 |[],st,st',h,hw=>by cases h;simp [hw]
 |n::ns,st,st',h,hw=>by
  unfold pM at h
  cases hp:push st n with
  |none=>rw [hp]at h;cases h
  |some st1=>
   rw [hp]at h
   obtain⟨h1,_,h3⟩:=PK hp hw
   obtain⟨h4,h5⟩:=Ac (ns:=ns) h h3
   exact⟨by rw [h4,h1];simp,h5⟩
theorem sx: ∀(ns ms:List bo) (st:List Tr),pM (ns++ms) st=(pM ns st).bind (pM ms)
 |[],ms,st=>rfl
 |n::ns,ms,st=>by
  simp only [vO,pM]
  cases push st n with
  |none=>rfl
  |some st1=>exact sx ns ms st1
theorem My(t:Tr): ∀(st:List Tr),t.wf→pM (t.flat (ce st)) st=some (t::st):=by
 induction t with
 |lf n=>
  intro st ⟨h1,h2,h3,h4⟩
  have hn' :gX n (-1) (-1)=n:=by cases n;simp only at h3 h4;subst h3 h4;rfl
  simp only [Tr.flat,pM,push,hn']
  rw [h1]
  simp [h2,h3,h4,pM,hn']
 |un n a ih=>
  intro st ⟨⟨h1,h2,h3,h4⟩,ha⟩
  have hn' :gX n (-1) (-1)=n:=by cases n;simp only at h3 h4;subst h3 h4;rfl
  simp only [Tr.flat]
  rw [sx,ih st ha]
  simp only [bf,pM,push]
  have e1:(gX n (((ce st+a.size:Nat):Int)-1) (-1)).Tag=n.Tag:=rfl
  rw [e1,h1]
  have e2:Jn (gX n (((ce st+a.size:Nat):Int)-1) (-1))=true:=h2
  rw [e2]
  simp only [gX,GC,Bool.and_self,ep,bf,pM]
  simp only [gX]at hn'
  rw [hn']
 |bi n a b iha ihb=>
  intro st ⟨⟨h1,h2,h3,h4⟩,ha,hb⟩
  have hn' :gX n (-1) (-1)=n:=by cases n;simp only at h3 h4;subst h3 h4;rfl
  simp only [Tr.flat]
  rw [sx,sx,iha st ha]
  simp only [bf]
  have e0:ce st+a.size=ce (a::st):=rfl
  rw [e0,ihb (a::st) hb]
  simp only [bf,pM,push]
  have e1:(gX n (((ce (a::st):Nat):Int)-1) (((ce (a::st)+b.size:Nat):Int)-1)).Tag=n.Tag:=rfl
  rw [e1,h1]
  have e2:Jn (gX n (((ce (a::st):Nat):Int)-1) (((ce (a::st)+b.size:Nat):Int)-1))=true:=h2
  rw [e2]
  simp only [gX,ce,GC,Bool.and_self,ep,bf,pM]
  simp only [gX]at hn'
  rw [hn']
def mA(ns:List bo):Option Tr:=match pM ns []with
 |some [t]=>if ns.length≤1000 then some t else none
 |_=>none
theorem j8{t:Tr}(h:mA ns=some t):t.wf∧ns=t.flat 0∧t.size≤1000:=by
 unfold mA at h
 split at h
 ·rename_i t0 hp
  split at h
  ·rename_i hl
   cases h
   obtain⟨h1,h2⟩:=Ac hp (fun t ht=>by cases ht)
   simp only [wN,ce,jY]at h1
   exact⟨h2 t (kO ..),h1.symm,by rw [←t.flat_len 0,h1];exact hl⟩
  ·cases h
 ·cases h
theorem JG{t:Tr}(h:t.wf)(hs:t.size≤1000):mA (t.flat 0)=some t:=by
 unfold mA
 have h0:=My t [] h
 simp only [ce]at h0
 rw [h0]
 simp only [t.flat_len,hs,ep]
def fl:Tr→Nat→List Int
 | .lf _,s=>[(s:Int)]
 | .un _ a,s=>fl a s++[(s:Int)]
 | .bi _ a b,s=>fl a s++fl b (s+a.size)++[(s:Int)]
def Qc:List Tr→List Int
 |[]=>[]
 |t::st=>Qc st++fl t (ce st)
def mG:List Tr→List Int
 |[]=>[]
 |t::st=>mG st++[((ce st+t.size:Nat):Int)-1]
theorem wo(t:Tr): ∀s,(fl t s).length=t.size:=by
 induction t with
 |lf n=>intro s;rfl
 |un n a ih=>intro s;simp [fl,Tr.size,ih]
 |bi n a b iha ihb=>intro s;simp [fl,Tr.size,iha,ihb];omega
theorem uA: ∀st:List Tr,(Qc st).length=ce st
 |[]=>rfl
 |t::st=>by simp [Qc,ce,uA st,wo]
theorem db: ∀st:List Tr,(mG st).length=st.length
 |[]=>rfl
 |t::st=>by simp [mG,db st]
theorem Ux(t:Tr)(s:Nat):(fl t s)[t.size-1]? =some (s:Int):=by
 cases t with
 |lf n=>rfl
 |un n a=>simp only [fl,Tr.size];rw [si (by rw [wo];omega),wo];simp
 |bi n a b=>simp only [fl,Tr.size];rw [si (by simp [wo]),iI,wo,wo];simp
theorem Fk(t:Tr)(st:List Tr)(rest:List Int):(Qc st++fl t (ce st)++rest)[ce st+t.size-1]? =some (ce st:Int):=by
 have:=t.size_pos
 rw [xi (by rw [iI,uA,wo];omega),si (by rw [uA];omega),uA,show ce st+t.size-1-ce st=t.size-1 from by omega]
 exact Ux t _
theorem Qd: ∀(ns:List bo) (st:List Tr),ce st+ns.length≤100000→kJ ns (ce st) (Qc st) (mG st)=some (match pM ns st with
   |some st' =>(Qc st',decide (st'.length=1)&&decide (ce st' ≤1000))
   |none=>([],false)):=by
 intro ns
 induction ns with
 |nil=>
  intro st _
  simp only [kJ,pM,db,uA]
  congr 2
  congr 1
  ·rw [AC];simp;omega
  ·rw [AC];simp;omega
 |cons n ns ih=>
  intro st hs
  simp only [iN]at hs
  have hll:=GT st
  unfold kJ
  rw [zD]
  simp only [bf,db,Fu]
  unfold pM
  unfold push
  -- the parts
  cases hk:pk n.Tag with
  |none=>
   have e:Iq n.Tag= -1:=by unfold Iq;rw [hk]
   simp [e]
  |some k=>
   have e:Iq n.Tag=(k:Int):=by unfold Iq;rw [hk]
   have hk3:k=0∨k=1∨k=2:=by
    unfold pk at hk
    repeat' split at hk
    all_goals simp at hk
    all_goals omega
   rw [e]
   rcases hk3 with rfl|rfl|rfl
   ·-- none
    simp only []
    have c1:(decide (((0:Nat):Int)<0)||decide ((st.length:Int)<((0:Nat):Int)))=false:=by simp
    simp only [c1,BW,ep,bf]
    cases hc:Jn n with
    |false=>simp
    |true=>
     simp only [mw,fL,d7,uM]
     rw [lO st.length st.length (by rw [cq (by omega) (by omega)];omega) rfl (dy _) (by rw [db];exact dy _)]
     have hd:(List.take st.length (mG st)).drop st.length=[]:=DY (by simp;omega)
     simp only [hd,bf,mb]
     by_cases hL:n.L= -1∧n.R= -1
     ·have hb:(n.L== -1&&n.R== -1)=true:=by simp [hL]
      rw [aY hb,aL (by simp [hL.1,hL.2])]
      rw [co (by simp only [iN,pQ,uA];omega)]
      simp only [bf]
      rw [lO (i:=0) 0 st.length rfl (by rw [db,cq (by omega) (by omega)];omega) (lF _) (by rw [db];exact dy _)]
      rw [sf (by rw [db];exact dy _),y4]
      simp only [bf]
      rw [co (by simp only [iN,pQ,db];omega)]
      simp only [bf]
      have h2:=ih (.lf (gX n (-1) (-1))::st) (by simp [ce,Tr.size];omega)
      simp only [ce,Tr.size,Qc,fl,mG]at h2
      rw [show(((ce st+1:Nat):Int)-1)=(ce st:Int)from by omega]at h2
      exact h2
     ·have hb:(n.L== -1&&n.R== -1)=false:=by
       rw [rR];intro h;apply hL;simpa using h
      rw [hb]
      rw [aY (by
       simp only [Dn,F4]
       intro h
       have h1:(-1:Int)=n.L:=by injection h
       have h2:(-1:Int)=n.R:=by injection h with _ h;injection h
       exact hL ⟨h1.symm,h2.symm⟩)]
      simp
   ·-- one
    cases st with
    |nil=>simp
    |cons a st=>
     simp only []
     have c1:(decide (((1:Nat):Int)<0)||decide (((a::st).length:Int)<((1:Nat):Int)))=false:=by simp;omega
     simp only [c1,BW,ep,bf]
     cases hc:Jn n with
     |false=>simp
     |true=>
      simp only [mw,fL,d7,uM]
      simp only [iN]at hll ⊢
      simp only [ce]at hs hll
      have hap:=a.size_pos
      rw [lO st.length (st.length+1) (by rw [cq (by omega) (by omega)];omega) (by omega) (by omega) (by rw [db];exact dy _)]
      have hd:(List.take (st.length+1) (mG (a::st))).drop st.length=[((ce st+a.size:Nat):Int)-1]:=by
       rw [sf (by rw [db];exact dy _)]
       simp only [mG]
       rw [GK (by rw [db];exact dy _),DY (by rw [db];exact dy _),jY]
      rw [hd]
      simp only [bf,mb]
      rw [gO (ce st+a.size-1) (by omega)]
      have hf:=Fk a st []
      rw [rn]at hf
      simp only [Qc]
      rw [hf]
      simp only [bf]
      rw [gO 0 rfl]
      simp only [F5,bf]
      have hset:([(-1:Int),-1].set ((0:Nat):Int).toNat (((ce st+a.size:Nat):Int)-1))=[((ce st+a.size:Nat):Int)-1,-1]:=rfl
      rw [hset]
      by_cases hL:n.L=((ce st+a.size:Nat):Int)-1∧n.R= -1
      ·have hb:(n.L==((ce st+a.size:Nat):Int)-1&&n.R== -1)=true:=by simp [hL]
       rw [aY hb,aL (by rw [hL.1,hL.2];simp)]
       rw [co (by simp only [iN,pQ,iI,uA,wo];omega)]
       simp only [bf]
       rw [lO (i:=0) 0 st.length rfl (by rw [db,cq (by simp<;>omega) (by simp<;>omega)];simp) (lF _) (by rw [db];simp)]
       have ht:(List.take st.length (mG (a::st))).drop 0=mG st:=by
        simp only [mG,y4]
        rw [Do (by rw [db];exact dy _),sf (by rw [db];exact dy _)]
       rw [ht]
       simp only [bf]
       rw [co (by simp only [iN,pQ,db];omega)]
       simp only [bf]
       have h2:=ih (.un (gX n (-1) (-1)) a::st) (by simp [ce,Tr.size];omega)
       simp only [ce,Tr.size,Qc,fl,mG]at h2
       rw [show(((ce st+(a.size+1):Nat):Int)-1)=((ce st+a.size:Nat):Int)from by omega]at h2
       have hm:min ((ce (a::st):Nat):Int) (ce st:Int)=(ce st:Int):=by simp only [ce];omega
       rw [hm]
       simp only [jG]at h2 ⊢
       exact h2
      ·have hb:(n.L==((ce st+a.size:Nat):Int)-1&&n.R== -1)=false:=by
        rw [rR];intro h;apply hL;simpa using h
       rw [hb]
       rw [aY (by
        simp only [Dn,F4]
        intro h
        have h1:((ce st+a.size:Nat):Int)-1=n.L:=by injection h
        have h2:(-1:Int)=n.R:=by injection h with _ h;injection h
        exact hL ⟨h1.symm,h2.symm⟩)]
       simp
   ·-- two
    cases st with
    |nil=>simp
    |cons b st=>
     cases st with
     |nil=>simp
     |cons a st=>
      simp only []
      have c1:(decide (((2:Nat):Int)<0)||decide (((b::a::st).length:Int)<((2:Nat):Int)))=false:=by simp;omega
      simp only [c1,BW,ep,bf]
      cases hc:Jn n with
      |false=>simp
      |true=>
       simp only [mw,fL,d7,uM]
       simp only [iN]at hll ⊢
       simp only [ce]at hs hll
       have hap:=a.size_pos
       have hbp:=b.size_pos
       rw [lO st.length (st.length+1+1) (by rw [cq (by omega) (by omega)];omega) (by omega) (by omega) (by rw [db];exact dy _)]
       have hd:(List.take (st.length+1+1) (mG (b::a::st))).drop st.length=[((ce st+a.size:Nat):Int)-1,((ce st+a.size+b.size:Nat):Int)-1]:=by
        rw [sf (by rw [db];exact dy _)]
        simp only [mG,ce,jG]
        rw [GK (by rw [db];exact dy _),DY (by rw [db];exact dy _),jY]
        rfl
       rw [hd]
       simp only [bf,mb]
       simp only [Qc,ce]
       rw [gO (ce st+a.size-1) (by omega)]
       rw [Fk a st (fl b (ce st+a.size))]
       simp only [bf]
       rw [gO 0 rfl]
       simp only [F5,bf]
       have hset:([(-1:Int),-1].set ((0:Nat):Int).toNat (((ce st+a.size:Nat):Int)-1))=[((ce st+a.size:Nat):Int)-1,-1]:=rfl
       rw [hset]
       rw [gO (ce st+a.size+b.size-1) (by omega)]
       have hf:=Fk b (a::st) []
       rw [rn]at hf
       simp only [Qc,ce]at hf
       rw [hf]
       simp only [bf]
       rw [gO (0+1) rfl]
       simp only [NO,F5,bf]
       have hset2:([((ce st+a.size:Nat):Int)-1,-1].set ((0+1:Nat):Int).toNat (((ce st+a.size+b.size:Nat):Int)-1))=[((ce st+a.size:Nat):Int)-1,((ce st+a.size+b.size:Nat):Int)-1]:=rfl
       rw [hset2]
       by_cases hL:n.L=((ce st+a.size:Nat):Int)-1∧n.R=((ce st+a.size+b.size:Nat):Int)-1
       ·have hb:(n.L==((ce st+a.size:Nat):Int)-1&&n.R==((ce st+a.size+b.size:Nat):Int)-1)=true:=by rw [hL.1,hL.2];simp
        rw [aY hb,aL (by rw [hL.1,hL.2];simp)]
        rw [co (by simp only [iN,pQ,iI,uA,wo];omega)]
        simp only [bf]
        rw [lO (i:=0) 0 st.length rfl (by rw [db,cq (by simp;omega) (by simp;omega)];simp;omega) (lF _) (by rw [db];simp;omega)]
        have ht:(List.take st.length (mG (b::a::st))).drop 0=mG st:=by
         simp only [mG,y4,jG]
         rw [Do (by rw [db];exact dy _),sf (by rw [db];exact dy _)]
        rw [ht]
        simp only [bf]
        rw [co (by simp only [iN,pQ,db];omega)]
        simp only [bf]
        have h2:=ih (.bi (gX n (-1) (-1)) a b::st) (by simp [ce,Tr.size];omega)
        simp only [ce,Tr.size,Qc,fl,mG]at h2
        rw [show(((ce st+(a.size+b.size+1):Nat):Int)-1)=((ce st+a.size+b.size:Nat):Int)from by omega,show ce st+(a.size+b.size+1)=ce st+a.size+b.size+1 from by omega]at h2
        have hm:min (min (((ce st+a.size+b.size:Nat)):Int) (ce st:Int)) ((ce st+a.size:Nat):Int)=(ce st:Int):=by omega
        rw [hm]
        simp only [jG]at h2 ⊢
        exact h2
       ·have hb:(n.L==((ce st+a.size:Nat):Int)-1&&n.R==((ce st+a.size+b.size:Nat):Int)-1)=false:=by
         rw [rR];intro h;apply hL;simpa using h
        rw [hb]
        rw [aY (by
         simp only [Dn,F4]
         intro h
         have h1:((ce st+a.size:Nat):Int)-1=n.L:=by injection h
         have h2:((ce st+a.size+b.size:Nat):Int)-1=n.R:=by injection h with _ h;injection h
         exact hL ⟨h1.symm,h2.symm⟩)]
        simp

theorem mO{n:Nat}(h:n≤1000000):n≤iz:=by unfold iz;omega
def j5(ns:List bo):Bool:=(mA ns).isSome
theorem Kk{st:List Tr}(h:pM ns []=some st):ce st=ns.length:=by
 have:=(Ac h (fun t ht=>by cases ht)).1
 rw [←Hh,this];simp [wN]
theorem uY(e:bG)(h:e.Nodes.length≤100000):qY e=some (if j5 e.Nodes then 0 else 200):=by
 unfold qY xY j5 mA
 have:=Qd e.Nodes [] (by simpa [ce] using h)
 simp only [ce,Qc,mG]at this
 rw [this]
 cases hp:pM e.Nodes []with
 |none=>rfl
 |some st=>
  have hsz:=Kk hp
  match st,hsz with
  |[],_=>rfl
  |[t],hsz=>
   simp only [bf,hsz]
   by_cases hl:e.Nodes.length≤1000<;>simp [hl]
  |t::t2::st,_=>simp
theorem TH(t:Tr):t.wf→ ∀(P R N:List bo) (fu:Nat),N=P++t.flat P.length++R→t.size≤fu→N.length≤100000→jk fu ⟨N⟩ (((P.length+t.size:Nat):Int)-1)=some (t.size:Int):=by
 induction t with
 |lf n=>
  intro⟨h1,h2,h3,h4⟩ P R N fu hN hf hl
  have hNl:=congrArg List.length hN
  simp only [iI,Tr.flat_len]at hNl
  simp only [Tr.size]at hf hNl ⊢
  obtain⟨fu,rfl⟩: ∃k,fu=k+1:=⟨fu-1,by omega⟩
  unfold jk
  have hx:N[P.length]? =some (gX n (-1) (-1)):=by
   rw [hN,jG,si (dy _),zL];rfl
  rw [aL (by simp;omega),gO P.length (by omega),hx]
  have e1:(gX n (-1) (-1)).Tag=n.Tag:=rfl
  simp only [bf]
  rw [e1,qa]
  have e:Iq n.Tag=0:=by unfold Iq;rw [h1];rfl
  simp only [e,bf,jH]
  have e2:Jn (gX n (-1) (-1))=true:=h2
  rw [e2]
  simp [gX]
 |un n a ih=>
  intro⟨⟨h1,h2,h3,h4⟩,ha⟩ P R N fu hN hf hl
  obtain⟨m,hm⟩: ∃m,m=gX n (((P.length+a.size:Nat):Int)-1) (-1):=⟨_,rfl⟩
  have hNl:=congrArg List.length hN
  simp only [iI,Tr.flat_len]at hNl
  simp only [Tr.size]at hf hNl ⊢
  simp only [Tr.flat,←hm]at hN
  obtain⟨fu,rfl⟩: ∃k,fu=k+1:=⟨fu-1,by omega⟩
  have hpos:=a.size_pos
  have hi:=ih ha P ([m]++R) N fu (by rw [hN];simp only [jG]) (by omega) hl
  unfold jk
  have hx:N[P.length+a.size]? =some m:=by
   rw [hN,jG,jG,←jG P,si (by simp [a.flat_len])]
   simp [a.flat_len]
  rw [aL (by simp;omega),gO (P.length+a.size) (by omega),hx]
  simp only [bf]
  have e1:m.Tag=n.Tag:=by rw [hm];rfl
  rw [e1,qa]
  have e:Iq n.Tag=1:=by unfold Iq;rw [h1];rfl
  simp only [e,bf,jH]
  have e2:Jn m=true:=by rw [hm];exact h2
  have eL:m.L=((P.length+a.size:Nat):Int)-1:=by rw [hm];rfl
  have eR:m.R= -1:=by rw [hm];rfl
  rw [cq (n:=((P.length+(a.size+1):Nat):Int)-1-1) (by omega) (by omega),show(((P.length+(a.size+1):Nat):Int)-1-1)=(((P.length+a.size:Nat):Int)-1)from by omega]
  rw [hi]
  simp only [bf]
  rw [cq (n:=(a.size:Int)+1) (by omega) (by omega)]
  have n1: ¬a.size=0:=by omega
  simp [e2,eL,eR,n1]
 |bi n a b iha ihb=>
  intro⟨⟨h1,h2,h3,h4⟩,ha,hb⟩ P R N fu hN hf hl
  obtain⟨m,hm⟩: ∃m,m=gX n (((P.length+a.size:Nat):Int)-1) (((P.length+a.size+b.size:Nat):Int)-1):=⟨_,rfl⟩
  have hNl:=congrArg List.length hN
  simp only [iI,Tr.flat_len]at hNl
  simp only [Tr.size]at hf hNl ⊢
  simp only [Tr.flat,←hm]at hN
  obtain⟨fu,rfl⟩: ∃k,fu=k+1:=⟨fu-1,by omega⟩
  have hap:=a.size_pos
  have hbp:=b.size_pos
  have hi1:=iha ha P (b.flat (P.length+a.size)++[m]++R) N fu (by rw [hN];simp only [jG]) (by omega) hl
  have hi2:=ihb hb (P++a.flat P.length) ([m]++R) N fu (by rw [hN];simp only [jG,iI,a.flat_len]) (by omega) hl
  rw [iI,a.flat_len]at hi2
  unfold jk
  have hx:N[P.length+a.size+b.size]? =some m:=by
   rw [hN,jG,jG,←jG P,si (by simp [a.flat_len,b.flat_len];omega)]
   have:P.length+a.size+b.size-(P++(a.flat P.length++b.flat (P.length+a.size))).length=0:=by simp [a.flat_len,b.flat_len];omega
   rw [this];rfl
  rw [aL (by simp;omega),gO (P.length+a.size+b.size) (by omega),hx]
  simp only [bf]
  have e1:m.Tag=n.Tag:=by rw [hm];rfl
  rw [e1,qa]
  have e:Iq n.Tag=2:=by unfold Iq;rw [h1];rfl
  simp only [e,bf,jH]
  have e2:Jn m=true:=by rw [hm];exact h2
  have eL:m.L=((P.length+a.size:Nat):Int)-1:=by rw [hm];rfl
  have eR:m.R=((P.length+a.size+b.size:Nat):Int)-1:=by rw [hm];rfl
  rw [cq (n:=((P.length+(a.size+b.size+1):Nat):Int)-1-1) (by omega) (by omega),show(((P.length+(a.size+b.size+1):Nat):Int)-1-1)=(((P.length+a.size+b.size:Nat):Int)-1)from by omega]
  rw [hi2]
  simp only [bf]
  rw [cq (n:=((P.length+a.size+b.size:Nat):Int)-1-(b.size:Int)) (by omega) (by omega),show((P.length+a.size+b.size:Nat):Int)-1-(b.size:Int)=((P.length+a.size:Nat):Int)-1 from by omega]
  rw [hi1]
  simp only [bf]
  rw [cq (n:=(a.size:Int)+(b.size:Int)) (by omega) (by omega),cq (n:=(a.size:Int)+(b.size:Int)+1) (by omega) (by omega)]
  have n1: ¬a.size=0:=by omega
  have n2: ¬b.size=0:=by omega
  have e5:(P.length:Int)+(a.size:Int)+(b.size:Int)-1-(b.size:Int)=(P.length:Int)+(a.size:Int)-1:=by omega
  simp [e2,eL,eR,n1,n2,e5]
theorem TJ(N:List bo)(hN:N.length≤100000): ∀(fu q:Nat),q≤N.length→q<fu→ ∃k:Nat,jk fu ⟨N⟩ ((q:Int)-1)=some (k:Int)∧(k=0∨ ∃(t:Tr) (P R:List bo),t.wf∧t.size=k∧N=P++t.flat P.length++R∧P.length+k=q):=by
 intro fu
 induction fu with
 |zero=>intro q _ h;omega
 |succ fu ih=>
  intro q hq hf
  unfold jk
  by_cases h0:q=0
  ·subst h0
   exact⟨0,by rw [aY (by simp)];rfl,.inl rfl⟩
  rw [aL (by simp;omega),gO (q-1) (by omega)]
  have hlt:q-1<N.length:=by omega
  rw [oO hlt]
  obtain⟨n,hn⟩: ∃n,n=N[q-1]:=⟨_,rfl⟩
  rw [←hn]
  have hd:N=N.take (q-1)++([n]++N.drop q):=by
   have h1:=vR (q-1) N
   rw [wV hlt,←hn,show q-1+1=q from by omega]at h1
   exact h1.symm
  simp only [bf,qa,jH]
  cases hk:pk n.Tag with
  |none=>
   have e:Iq n.Tag= -1:=by unfold Iq;rw [hk]
   exact⟨0,by simp [e],.inl rfl⟩
  |some k=>
   have e:Iq n.Tag=(k:Int):=by unfold Iq;rw [hk]
   have hk3:k=0∨k=1∨k=2:=by
    unfold pk at hk
    repeat' split at hk
    all_goals simp at hk
    all_goals omega
   cases hc:Jn n with
   |false=>exact⟨0,by simp [e,hc],.inl rfl⟩
   |true=>
    rcases hk3 with rfl|rfl|rfl
    ·rw [e]
     by_cases hL:n.L= -1∧n.R= -1
     ·refine⟨1,by simp [hL],.inr ⟨.lf (gX n (-1) (-1)),N.take (q-1),N.drop q,⟨hk,hc,rfl,rfl⟩,rfl,?_,by simp;omega⟩⟩
      simp only [Tr.flat]
      rw [yA hL.1 hL.2,jG]
      exact hd
     ·refine⟨0,?_,.inl rfl⟩
      have:(n.L != -1||n.R != -1)=true:=by
       rw [pW,qD,qD]
       by_cases hl:n.L= -1
       ·exact .inr fun h=>hL ⟨hl,h⟩
       ·exact .inl hl
      simp [this]
    ·rw [e,cq (by omega) (by omega)]
     have e9:(((q-1:Nat):Int)-1)=(q:Int)-1-1:=by omega
     obtain⟨r2,h2,h2'⟩:=ih (q-1) (by omega) (by omega)
     rw [e9]at h2
     rw [h2]
     rcases h2' with rfl|⟨t,P,R,hw,hs,hN2,hl⟩
     ·exact⟨0,by simp,.inl rfl⟩
     ·have hp:=t.size_pos
      by_cases hL:n.L=(q:Int)-1-1∧n.R= -1
      ·refine⟨r2+1,?_,.inr ⟨.un (gX n (-1) (-1)) t,P,N.drop q,⟨⟨hk,hc,rfl,rfl⟩,hw⟩,by simp only [Tr.size];omega,?_,by omega⟩⟩
       ·simp only [bf]
        rw [cq (n:=(r2:Int)+1) (by omega) (by omega)]
        have: ¬(r2=0):=by omega
        simp [hL,this]
       ·simp only [Tr.flat]
        rw [yA (by rw [hL.1];omega) hL.2]
        have ht:N.take (q-1)=P++t.flat P.length:=by
         rw [hN2,Do (by simp [t.flat_len];omega),sf (by simp [t.flat_len];omega)]
        rw [ht]at hd
        simpa only [jG] using hd
      ·refine⟨0,?_,.inl rfl⟩
       have:(n.L !=(q:Int)-1-1||n.R != -1)=true:=by
        rw [pW,qD,qD]
        by_cases hl:n.L=(q:Int)-1-1
        ·exact .inr fun h=>hL ⟨hl,h⟩
        ·exact .inl hl
       simp [this]
    ·rw [e,cq (n:=(q:Int)-1-1) (by omega) (by omega)]
     have e9:(((q-1:Nat):Int)-1)=(q:Int)-1-1:=by omega
     obtain⟨r2,h2,h2'⟩:=ih (q-1) (by omega) (by omega)
     rw [e9]at h2
     rw [h2]
     rcases h2' with rfl|⟨t,P,R,hw,hs,hN2,hl⟩
     ·exact⟨0,by simp,.inl rfl⟩
     ·have hp:=t.size_pos
      simp only [bf]
      rw [cq (n:=(q:Int)-1-1-(r2:Int)) (by omega) (by omega)]
      have e8:(((q-1-r2:Nat):Int)-1)=(q:Int)-1-1-(r2:Int):=by omega
      have n2: ¬(r2=0):=by omega
      obtain⟨r3,h3,h3'⟩:=ih (q-1-r2) (by omega) (by omega)
      rw [e8]at h3
      rw [h3]
      rcases h3' with rfl|⟨t3,P3,R3,hw3,hs3,hN3,hl3⟩
      ·exact⟨0,by simp,.inl rfl⟩
      ·have hp3:=t3.size_pos
       have n3: ¬(r3=0):=by omega
       by_cases hL:n.R=(q:Int)-1-1∧n.L=(q:Int)-1-1-(r2:Int)
       ·refine⟨r3+r2+1,?_,.inr ⟨.bi (gX n (-1) (-1)) t3 t,P3,N.drop q,⟨⟨hk,hc,rfl,rfl⟩,hw3,hw⟩,by simp only [Tr.size];omega,?_,by omega⟩⟩
        ·simp only [bf]
         rw [cq (n:=(r3:Int)+(r2:Int)) (by omega) (by omega),cq (n:=(r3:Int)+(r2:Int)+1) (by omega) (by omega)]
         simp [hL,n2,n3]
        ·simp only [Tr.flat]
         rw [yA (by rw [hL.2];omega) (by rw [hL.1];omega)]
         have ht:N.take (q-1)=P++t.flat P.length:=by
          rw [hN2,Do (by simp [t.flat_len];omega),sf (by simp [t.flat_len];omega)]
         have hP:P=N.take P.length:=by
          conv=>rhs;rw [hN2,jG,Do (dy _),sf (dy _)]
         have hP3:P=P3++t3.flat P3.length:=by
          rw [hP]
          have:P.length=P3.length+t3.size:=by omega
          conv=>lhs;rw [this,hN3]
          rw [Do (by simp [t3.flat_len]),sf (by simp [t3.flat_len])]
         have hPl:P.length=P3.length+t3.size:=by omega
         rw [ht,hPl]at hd
         rw [hP3]at hd
         simpa only [jG] using hd
       ·clear ih hN2 hN3
        refine⟨0,?_,.inl rfl⟩
        have:(n.R !=(q:Int)-1-1||n.L !=(q:Int)-1-1-(r2:Int))=true:=by
         rw [pW,qD,qD]
         by_cases hl:n.R=(q:Int)-1-1
         ·exact .inr fun h=>hL ⟨hl,h⟩
         ·exact .inl hl
        have h' :=this
        rw [pW,qD,qD]at h'
        simp [n2,n3]
        intro h1 h2
        exact absurd h2 (by rcases h' with h' |h';exact absurd h1 h';exact h')
theorem xD(e:bG):uq e=some (j5 e.Nodes):=by
 unfold uq j5
 by_cases h:1≤e.Nodes.length∧e.Nodes.length≤1000
 ·rw [aY (by simp;omega),cq (by omega) (by omega)]
  unfold EN
  obtain⟨k,h1,h2⟩:=TJ e.Nodes (by omega) iz e.Nodes.length (dy _) (xh (xn _) (mO (by omega)))
  have h1' :jk iz e ((e.Nodes.length:Int)-1)=some (k:Int):=h1
  rw [h1']
  simp only [bf]
  congr 1
  rw [AC]
  constructor
  ·intro hk
   have hk' :k=e.Nodes.length:=by have:=eq_of_beq hk;omega
   rcases h2 with rfl|⟨t,P,R,hw,hs,hN,hl⟩
   ·omega
   ·have hP:P=[]:=uf (by omega)
    subst hP
    have hR:R=[]:=by
     have:=congrArg List.length hN
     simp [t.flat_len]at this
     exact uf (by omega)
    subst hR
    have hN' :e.Nodes=t.flat 0:=by simpa using hN
    rw [hN',JG hw (by omega)];rfl
  ·intro hi
   cases ht:mA e.Nodes with
   |none=>rw [ht]at hi;cases hi
   |some t=>
    obtain⟨hw,hN,hs⟩:=j8 ht
    have hlen:e.Nodes.length=t.size:=by rw [hN,t.flat_len]
    have h3:=TH t hw [] [] e.Nodes iz (by simpa using hN) (mO (by omega)) (by omega)
    simp only [pQ,uc]at h3
    rw [←hlen]at h3
    have h4:some (k:Int)=some (e.Nodes.length:Int):=h1.symm.trans h3
    simpa using h4
 ·rw [aL (by simp;omega)]
  simp only [bf]
  congr 1
  symm
  rw [rR]
  intro hi
  cases ht:mA e.Nodes with
  |none=>rw [ht]at hi;cases hi
  |some t=>
   obtain⟨hw,hN,hs⟩:=j8 ht
   have hlen:e.Nodes.length=t.size:=by rw [hN,t.flat_len]
   have:=t.size_pos
   omega
theorem Ms(h:j5 ns=true):1≤ns.length∧ns.length≤1000:=by
 unfold j5 at h
 cases ht:mA ns with
 |none=>rw [ht]at h;cases h
 |some t=>
  obtain⟨hw,hN,hs⟩:=j8 ht
  have hlen:ns.length=t.size:=by rw [hN,t.flat_len]
  have:=t.size_pos
  omega

theorem Li(p:List Int)(hp:p.length≤8000)(i:Nat)(y:List Int)(hy:i+y.length=p.length): ∀(k i1:Nat) (x:List Int) (x1:Nat),i1+k=y.length→0<i1→x.length=p.length→x1+1≤i+i1→x.drop (i+i1-1)=p.drop (i+i1-1)→
  dZ i y k i1 x (x1:Int)=some (x.take x1++tS ((p[i+i1-1]?).getD 0) (p.drop (i+i1))):=by
 intro k
 induction k with
 |zero=>
  intro i1 x x1 h1 h0 hx h2 h3
  simp only [dZ]
  have hx1:x1≤x.length:=by omega
  rw [lN hx1 (dy _)]
  simp only [bf,xm,AE]
  rw [show((0:Int))=((0:Nat):Int)from rfl,lN (lF _) (by simp;omega)]
  simp only [bf,y4]
  have hn:p.drop (i+i1)=[]:=AG (by omega)
  rw [hn,BF,rn,Do (by simp;omega),BV,Nat.min_self]
 |succ k ih=>
  intro i1 x x1 h1 h0 hx h2 h3
  have e1:x[i+i1]? =p[i+i1]? :=by
   have:=congrArg (fun l:List Int=>l[1]?) h3
   simp only [wU]at this
   rwa [show i+i1-1+1=i+i1 from by omega]at this
  have e0:x[i+i1-1]? =p[i+i1-1]? :=by
   have:=congrArg (fun l:List Int=>l[0]?) h3
   simpa only [wU,yZ] using this
  have hlt:i+i1<p.length:=by omega
  have g1:xT x (i:Int) y.length (i1:Int)=some p[i+i1]:=by
   unfold xT
   rw [aY (by omega),show(i:Int)+(i1:Int)=((i+i1:Nat):Int)from by omega,bW,e1,oO hlt]
  have g0:xT x (i:Int) y.length (IntKind.i64.wrap ((i1:Int)-1))=some p[i+i1-1]:=by
   rw [cq (by omega) (by omega)]
   unfold xT
   rw [aY (by omega),show(i:Int)+((i1:Int)-1)=((i+i1-1:Nat):Int)from by omega,bW,e0,oO (by omega)]
  have hd:p.drop (i+i1)=p[i+i1]::p.drop (i+i1+1):=wV hlt
  have hp1:(p[i+i1-1]?).getD 0=p[i+i1-1]:=by rw [oO (by omega)];rfl
  simp only [dZ,g1,g0,bf]
  rw [hd,hp1]
  by_cases hx2:p[i+i1]=p[i+i1-1]
  ·rw [aL (by simp [hx2])]
   have h3' :x.drop (i+(i1+1)-1)=p.drop (i+(i1+1)-1):=by
    have:=congrArg (List.drop 1) h3
    rwa [pV,pV,show i+i1-1+1=i+(i1+1)-1 from by omega]at this
   rw [ih (i1+1) x x1 (by omega) (by omega) hx (by omega) h3']
   rw [yP hx2,show i+(i1+1)-1=i+i1 from by omega,oO hlt,show i+(i1+1)=i+i1+1 from by omega]
   rfl
  ·rw [aY (by simp [hx2]),bW,oO (by omega)]
   simp only [bf,AE]
   rw [cq (by omega) (by omega),show((x1:Int)+1)=((x1+1:Nat):Int)from by omega]
   have h3' :(x.set x1 p[i+i1]).drop (i+(i1+1)-1)=p.drop (i+(i1+1)-1):=by
    rw [List.drop_set_of_lt (by omega)]
    have:=congrArg (List.drop 1) h3
    rwa [pV,pV,show i+i1-1+1=i+(i1+1)-1 from by omega]at this
   rw [ih (i1+1) _ (x1+1) (by omega) (by omega) (by simpa using hx) (by omega) h3']
   rw [DQ hx2,show i+(i1+1)-1=i+i1 from by omega,oO hlt,show i+(i1+1)=i+i1+1 from by omega]
   have ht:(x.set x1 p[i+i1]).take (x1+1)=x.take x1++[p[i+i1]]:=by
    rw [Jv (by simp;omega),List.take_set_of_le (by omega)]
    simp
   rw [ht]
   simp
theorem Lj(p:List Int)(hp:p.length≤8000):j4 p=some (uJ p):=by
 unfold j4
 by_cases h2:p.length<2
 ·rw [aY (by simp;omega)]
  match p,h2 with
  |[],_=>rfl
  |[x],_=>rfl
 ·rw [aL (by simp;omega)]
  have key: ∀(l:List Int) (i:Nat),p.drop i=l→0<i→i≤p.length→uJ p=p.take i++tS ((p[i-1]?).getD 0) (p.drop i)→eK p l i=some (uJ p):=by
   intro l
   induction l with
   |nil=>
    intro i h1 h0 hle h3
    have:=F3.1 h1
    simp only [eK]
    rw [h3,h1,sf (by omega),BF,rn]
   |cons x t ih=>
    intro i h1 h0 hle h3
    have hi:i<p.length:=by
     rcases m8 i p.length with h|h
     ·exact h
     ·rw [AG h]at h1;cases h1
    have hx:x=p[i]:=by rw [wV hi]at h1;exact(CM h1).1.symm
    have ht:p.drop (i+1)=t:=by rw [←pV,h1];rfl
    have hp1:(p[i-1]?).getD 0=p[i-1]:=by rw [oO (by omega)];rfl
    simp only [eK]
    rw [cq (by omega) (by omega),show(i:Int)-1=((i-1:Nat):Int)from by omega,bW,oO (by omega)]
    simp only [bf]
    by_cases he:x=p[i-1]
    ·rw [aY (by simp [he])]
     rw [lN hle (dy _)]
     simp only [bf,xm]
     rw [Li p hp i (p.drop i) (by simp;omega) _ 1 p i (by simp;omega) (by omega) rfl (by omega) (by simp)]
     rw [h3,h1,hp1,yP he,←ht,hx]
     rw [show i+1-1=i from by omega,oO hi];rfl
    ·rw [aL (by simp [he])]
     refine ih (i+1) ht (by omega) (by omega) ?_
     rw [h3,h1,hp1,DQ he,Jv hi,←ht,hx,show i+1-1=i from by omega,oO hi]
     rw [jG];rfl
  have hpc:p=p[0]::p.drop 1:=by
   have:=wV (l:=p) (i:=0) (by omega)
   simpa using this
  refine key (p.drop 1) 1 rfl (by omega) (by omega) ?_
  have e:(p[1-1]?).getD 0=p[0]:=by simp [oO (show 0<p.length by omega)]
  rw [e]
  conv=>lhs;rw [hpc]
  have e2:p.take 1=[p[0]]:=by
   conv=>lhs;rw [hpc]
   rfl
  rw [e2];rfl

theorem PS(l:List Int)(z:Int):z∈sortI l↔z∈l:=by unfold sortI;simp
theorem Az: ∀(ns:List bo) (out:List Int),out.length+ns.length≤8000→ ∃cs,mW ns out=some cs∧ ∀c,c∈cs↔c∈out∨ ∃n∈ns,n.Tag=2∧n.Col=c
 |[],out,h=>by
  unfold mW Em
  rw [aY (by simp at h;omega)]
  simp only [bf]
  rw [Lj _ (by rw [B6];simpa using h)]
  exact⟨_,rfl,fun c=>by rw [yG,PS];simp⟩
 |n::ns,out,h=>by
  simp only [iN]at h
  unfold mW
  by_cases ht:n.Tag=2
  ·rw [aY (by simp [ht]),co (by simp;omega)]
   simp only [bf]
   obtain⟨cs,h1,h2⟩:=Az ns (out++[n.Col]) (by simp;omega)
   exact⟨cs,h1,fun c=>by rw [h2];simp [ht,or_assoc,eq_comm]⟩
  ·rw [aL (by simp [ht])]
   obtain⟨cs,h1,h2⟩:=Az ns out (by omega)
   exact⟨cs,h1,fun c=>by rw [h2];simp [ht]⟩
theorem Bw(e:bG)(h:j5 e.Nodes=true): ∃cs,sT e=some cs∧ ∀c,c∈cs↔ ∃n∈e.Nodes,n.Tag=2∧n.Col=c:=by
 have hl:=Ms h
 unfold sT
 rw [uY e (by omega),h]
 obtain⟨cs,h1,h2⟩:=Az e.Nodes [] (by simp;omega)
 exact⟨cs,by simpa using h1,fun c=>by rw [h2];simp⟩
def kn(tag l r:Int):Int×Bool:=(i8 tag l r).getD (0,false)
theorem zx(tag l r:Int):i8 tag l r=some (kn tag l r):=by
 unfold kn i8 iq
 simp only [bf]
 repeat' split
 all_goals simp
def k4(k:Int):Prop:=k=0∨k=1∨k=2∨k=3
theorem WE(tag l r:Int):k4 (kn tag l r).1:=by
 unfold kn i8 iq
 simp only [bf]
 repeat' split
 all_goals simp [k4]
variable{kinds:List Int}
theorem NH(kinds:List Int)(n:bo)(x:Int)(hx:k4 x)(hk:pk n.Tag=some 1):jv kinds n [x]=some (if(kn n.Tag x 0).2 then((kn n.Tag x 0).1,0)else(0,201)):=by
 obtain⟨tag,L,R,col,v⟩:=n
 have ht:tag=4∨tag=5∨tag=6∨tag=7:=by
  unfold pk at hk
  repeat' split at hk
  all_goals simp at hk
  rename_i h
  have h:4≤tag∧tag≤7:=h
  omega
 rcases ht with rfl|rfl|rfl|rfl<;>rcases hx with rfl|rfl|rfl|rfl<;>rfl
theorem NF(kinds:List Int)(n:bo)(x y:Int)(hx:k4 x)(hy:k4 y)(hk:pk n.Tag=some 2):jv kinds n [x,y]=some (if(kn n.Tag x y).2 then((kn n.Tag x y).1,0)else(0,201)):=by
 obtain⟨tag,L,R,col,v⟩:=n
 have ht:tag=12∨tag=13∨tag=14∨tag=15∨tag=16∨tag=17∨tag=18∨tag=19∨tag=20∨tag=21∨tag=22∨tag=23:=by
  unfold pk at hk
  repeat' split at hk
  all_goals simp at hk
  rename_i h
  have h:12≤tag∧tag≤23:=h
  omega
 rcases ht with rfl|rfl|rfl|rfl|rfl|rfl|rfl|rfl|rfl|rfl|rfl|rfl<;>rcases hx with rfl|rfl|rfl|rfl<;>rcases hy with rfl|rfl|rfl|rfl<;>rfl
def kd(kinds:List Int):Tr→Option Int
 | .lf n=>if n.Tag=1 then some n.Value.Kind else some ((kinds[n.Col.toNat]?).getD 0)
 | .un n a=>(kd kinds a).bind fun x=>if(kn n.Tag x 0).2 then some (kn n.Tag x 0).1 else none
 | .bi n a b=>(kd kinds a).bind fun x=>(kd kinds b).bind fun y=>if(kn n.Tag x y).2 then some (kn n.Tag x y).1 else none
theorem Oo(kinds:List Int)(n:bo)(a:Tr):kd kinds (.un n a)=(kd kinds a).bind fun x=>if(kn n.Tag x 0).2 then some (kn n.Tag x 0).1 else none:=rfl
theorem KQ(kinds:List Int)(n:bo)(a b:Tr):kd kinds (.bi n a b)=(kd kinds a).bind fun x=>(kd kinds b).bind fun y=>if(kn n.Tag x y).2 then some (kn n.Tag x y).1 else none:=rfl
def Df(m:Nat):Tr→Prop
 | .lf n=>n.Tag=2→n.Col<m
 | .un _ a=>Df m a
 | .bi _ a b=>Df m a∧Df m b
theorem Zh(h:pk tag=some 0):tag=1∨tag=2:=by
 unfold pk at h
 repeat' split at h
 all_goals simp at h
 assumption
theorem pk2(h:pk tag=some k)(ht:tag=2):k=0:=by subst ht;simp [pk]at h;exact h.symm
theorem aap(h:Jn n=true)(ht:n.Tag=1):mM n.Value=true:=by
 have h2:=jH n
 rw [h]at h2
 unfold mJ at h2
 rw [aY (by simp [ht]),jp]at h2
 simp at h2
 exact h2.1
theorem Nq(h:Jn n=true)(ht:n.Tag=2):0≤n.Col∧n.Col<16:=by
 have h2:=jH n
 rw [h]at h2
 unfold mJ at h2
 rw [aL (by simp [ht]),aY (by simp [ht])]at h2
 simp at h2
 exact⟨h2.1.2,h2.2⟩
theorem Oq(hk: ∀k∈kinds,k4 k): ∀(t:Tr),t.wf→ ∀{k},kd kinds t=some k→k4 k
 | .lf n,⟨h1,h2,_,_⟩,k,h=>by
  unfold kd at h
  split at h
  ·rename_i ht
   have:=Ki (aap h2 ht)
   cases h;unfold k4;omega
  ·injection h with h
   subst h
   cases hc:kinds[n.Col.toNat]? with
   |none=>exact .inl rfl
   |some z=>exact hk z (rU hc)
 | .un n a,_,k,h=>by
  unfold kd at h
  cases ha:kd kinds a with
  |none=>rw [ha]at h;cases h
  |some x=>
   rw [ha,bf]at h
   split at h
   ·cases h;exact WE ..
   ·cases h
 | .bi n a b,_,k,h=>by
  unfold kd at h
  cases ha:kd kinds a with
  |none=>rw [ha]at h;cases h
  |some x=>
   cases hb:kd kinds b with
   |none=>rw [ha,hb]at h;cases h
   |some y=>
    rw [ha,hb]at h
    simp only [bf]at h
    split at h
    ·cases h;exact WE ..
    ·cases h
theorem MA(stack l:List Int)(h:stack.length+l.length≤100000):ph (stack++l) (l.length:Int)=some (l,stack):=by
 unfold ph cy
 have e:IntKind.i64.wrap (((stack++l).length:Int)-(l.length:Int))=(stack.length:Int):=by
  rw [iI,cq (by omega) (by omega)];omega
 rw [e,lO stack.length (stack++l).length rfl rfl (by simp) (dy _)]
 simp only [bf,xm,GK (dy _),List.drop_length,jY]
 rw [co (by simp;omega)]
 simp only [bf,jY]
 rw [lO (i:=0) 0 stack.length rfl rfl (lF _) (by simp)]
 simp
theorem Kn(stack:List Int){b:Int}(h:b≠0):ma b stack=some (0,b):=by
 unfold ma;rw [aY (by simpa using h)]
theorem nD(h:pk tag=some k):pC tag=some (k:Int):=by
 rw [zD];unfold Iq;rw [h]
theorem PL(kinds:List Int)(hk: ∀k∈kinds,k4 k)(t:Tr):t.wf→Df kinds.length t→ ∀(s:Nat) (rest:List bo) (stack:List Int),stack.length+t.size≤50000→
  g9 (jv kinds) (t.flat s++rest) 0 stack=match kd kinds t with
   |some k=>g9 (jv kinds) rest 0 (stack++[k])
   |none=>some (0,201):=by
 induction t with
 |lf n=>
  intro⟨h1,h2,h3,h4⟩ hc s rest stack hl
  simp only [Tr.flat,Tr.size,vO,jY]at hl ⊢
  rw [g9]
  have e1:(gX n (-1) (-1)).Tag=n.Tag:=rfl
  rw [e1,nD h1]
  have h0:=MA stack [] (by simp;omega)
  simp only [rn,pQ]at h0
  simp only [bf]
  rw [h0]
  simp only [bf]
  have hv:jv kinds (gX n (-1) (-1)) []=(kd kinds (.lf n)).map (fun k=>(k,(0:Int))):=by
   unfold jv md kd
   simp only [e1]
   rcases Zh h1 with ht|ht
   ·rw [aY (by simp [ht]),aY ht];rfl
   ·rw [aL (by simp [ht]),aY (by simp [ht]),aL (by simp [ht])]
    have hb:=Nq h2 ht
    have hm:n.Col<kinds.length:=hc ht
    have e2:(gX n (-1) (-1)).Col=n.Col:=rfl
    rw [e2,gO n.Col.toNat (by omega),oO (by omega)]
    rfl
  rw [hv]
  have: ∃k,kd kinds (.lf n)=some k:=by unfold kd;split<;>exact⟨_,rfl⟩
  obtain⟨k,hk1⟩:=this
  rw [hk1]
  simp only [Option.map_some,bf]
  rw [aL (by simp),co (by simp;omega)]
  rfl
 |un n a ih=>
  intro⟨⟨h1,h2,h3,h4⟩,ha⟩ hc s rest stack hl
  simp only [Tr.flat,Tr.size,jG]at hl ⊢
  rw [Oo,ih ha hc s _ stack (by omega)]
  cases hx:kd kinds a with
  |none=>rfl
  |some x=>
   have hx4:=Oq hk a ha hx
   simp only [bf,vO,jY]
   rw [g9]
   have e1:(gX n (((s+a.size:Nat):Int)-1) (-1)).Tag=n.Tag:=rfl
   rw [e1,nD h1]
   have h0:=MA stack [x] (by simp;omega)
   simp only [bf]
   have e0:(([x]:List Int).length:Int)=((1:Nat):Int):=rfl
   rw [←e0,h0]
   simp only [bf]
   rw [NH kinds _ x hx4 (by rw [e1];exact h1),e1]
   cases hb:(kn n.Tag x 0).2 with
   |true=>
    simp only [ep,bf]
    rw [aL (by simp),co (by simp;omega)]
    rfl
   |false=>
    simp only [fL,d7,bf]
    rw [aY (by decide),Kn _ (by decide)]
 |bi n a b iha ihb=>
  intro⟨⟨h1,h2,h3,h4⟩,ha,hb⟩ ⟨hca,hcb⟩ s rest stack hl
  simp only [Tr.flat,Tr.size,jG]at hl ⊢
  rw [KQ,iha ha hca s _ stack (by omega)]
  cases hx:kd kinds a with
  |none=>rfl
  |some x=>
   have hx4:=Oq hk a ha hx
   simp only [bf]
   rw [ihb hb hcb (s+a.size) _ (stack++[x]) (by have:=a.size_pos;simp;omega)]
   cases hy:kd kinds b with
   |none=>rfl
   |some y=>
    have hy4:=Oq hk b hb hy
    have hap:=a.size_pos
    simp only [bf,vO,jY]
    rw [g9]
    have e1:(gX n (((s+a.size:Nat):Int)-1) (((s+a.size+b.size:Nat):Int)-1)).Tag=n.Tag:=rfl
    rw [e1,nD h1]
    have h0:=MA stack [x,y] (by simp;omega)
    simp only [bf]
    have e0:(([x,y]:List Int).length:Int)=((2:Nat):Int):=rfl
    have e9:stack++[x]++[y]=stack++[x,y]:=by simp
    rw [←e0,e9,h0]
    simp only [bf]
    rw [NF kinds _ x y hx4 hy4 (by rw [e1];exact h1),e1]
    cases hb:(kn n.Tag x y).2 with
    |true=>
     simp only [ep,bf]
     rw [aL (by simp),co (by simp;omega)]
     rfl
    |false=>
     simp only [fL,d7,bf]
     rw [aY (by decide),Kn _ (by decide)]
theorem Rd(kinds:List Int)(hk: ∀k∈kinds,k4 k)(t:Tr):t.wf→Df kinds.length t→ ∀(rest:List bo) (own:List Int),own.length+t.size≤50000→
  (kd kinds t=none∧dh kinds (t.flat own.length++rest) own=some (0,201))∨
  (∃k w,kd kinds t=some k∧w.length+1=t.size∧dh kinds (t.flat own.length++rest) own=dh kinds rest (own++w++[k])):=by
 induction t with
 |lf n=>
  intro⟨h1,h2,h3,h4⟩ hc rest own hl
  simp only [Tr.flat,Tr.size,vO,jY]at hl ⊢
  refine .inr ?_
  have e1:(gX n (-1) (-1)).Tag=n.Tag:=rfl
  unfold kd
  rcases Zh h1 with ht|ht
  ·refine⟨_,[],aY ht,rfl,?_⟩
   rw [dh]
   rw [e1,aY (by simp [ht]),co (by simp;omega)]
   simp only [bf,rn]
   rfl
  ·refine⟨_,[],aL (by simp [ht]),rfl,?_⟩
   have hb:=Nq h2 ht
   have hm:n.Col<kinds.length:=hc ht
   have e2:(gX n (-1) (-1)).Col=n.Col:=rfl
   rw [dh]
   rw [e1,aL (by simp [ht]),aY (by simp [ht]),e2,gO n.Col.toNat (by omega),oO (by omega)]
   simp only [bf,rn,GB]
   rw [co (by simp;omega)]
   rfl
 |un n a ih=>
  intro⟨⟨h1,h2,h3,h4⟩,ha⟩ hc rest own hl
  have hap:=a.size_pos
  simp only [Tr.flat,Tr.size,jG]at hl ⊢
  rcases ih ha hc ([gX n (((own.length+a.size:Nat):Int)-1) (-1)]++rest) own (by omega)with⟨hx,he⟩|⟨x,w,hx,hw,he⟩
  ·exact .inl ⟨by rw [Oo,hx];rfl,by rw [he]⟩
  ·rw [he]
   rw [Oo,hx]
   simp only [bf,vO,jY]
   have e1:(gX n (((own.length+a.size:Nat):Int)-1) (-1)).Tag=n.Tag:=rfl
   have n1:n.Tag≠1:=fun h=>by rw [h]at h1;simp [pk]at h1
   have n2:n.Tag≠2:=fun h=>by rw [h]at h1;simp [pk]at h1
   have hstep:dh kinds (gX n (((own.length+a.size:Nat):Int)-1) (-1)::rest) (own++w++[x])=if(kn n.Tag x 0).2 then dh kinds rest (own++w++[x]++[(kn n.Tag x 0).1])else some (0,201):=by
    rw [dh]
    rw [e1,aL (by simpa using n1),aL (by simpa using n2)]
    have eL:(gX n (((own.length+a.size:Nat):Int)-1) (-1)).L=((own.length+a.size:Nat):Int)-1:=rfl
    have eR:(gX n (((own.length+a.size:Nat):Int)-1) (-1)).R= -1:=rfl
    rw [eL,eR,gO (own++w).length (by simp;omega),si (dy _),zL]
    simp only [F5,bf]
    rw [aL (by decide)]
    unfold re
    rw [e1,zx]
    simp only [bf]
    cases hb:(kn n.Tag x 0).2 with
    |true=>
     simp only [mw,fL,d7,ep]
     rw [co (by simp;omega)];rfl
    |false=>rfl
   rw [hstep]
   cases hb:(kn n.Tag x 0).2 with
   |true=>exact .inr ⟨(kn n.Tag x 0).1,w++[x],by simp,by simp;omega,by simp⟩
   |false=>exact .inl ⟨by simp,by simp⟩
 |bi n a b iha ihb=>
  intro⟨⟨h1,h2,h3,h4⟩,ha,hb⟩ ⟨hca,hcb⟩ rest own hl
  have hap:=a.size_pos
  have hbp:=b.size_pos
  simp only [Tr.flat,Tr.size,jG]at hl ⊢
  obtain⟨m,hm⟩: ∃m,m=gX n (((own.length+a.size:Nat):Int)-1) (((own.length+a.size+b.size:Nat):Int)-1):=⟨_,rfl⟩
  rw [←hm]
  rcases iha ha hca (b.flat (own.length+a.size)++([m]++rest)) own (by omega)with⟨hx,he⟩|⟨x,w,hx,hw,he⟩
  ·exact .inl ⟨by rw [KQ,hx];rfl,by rw [he]⟩
  ·rw [he]
   have hl2:(own++w++[x]).length=own.length+a.size:=by simp;omega
   rw [←hl2]
   rcases ihb hb hcb ([m]++rest) (own++w++[x]) (by rw [hl2];omega)with⟨hy,he2⟩|⟨y,w2,hy,hw2,he2⟩
   ·exact .inl ⟨by rw [KQ,hx,hy];rfl,by rw [he2]⟩
   ·rw [he2]
    rw [KQ,hx,hy]
    simp only [bf,vO,jY]
    have e1:m.Tag=n.Tag:=by rw [hm];rfl
    have eL:m.L=((own.length+a.size:Nat):Int)-1:=by rw [hm];rfl
    have eR:m.R=((own.length+a.size+b.size:Nat):Int)-1:=by rw [hm];rfl
    have n1:n.Tag≠1:=fun h=>by rw [h]at h1;simp [pk]at h1
    have n2:n.Tag≠2:=fun h=>by rw [h]at h1;simp [pk]at h1
    have hstep:dh kinds (m::rest) (own++w++[x]++w2++[y])=if(kn n.Tag x y).2 then dh kinds rest (own++w++[x]++w2++[y]++[(kn n.Tag x y).1])else some (0,201):=by
     rw [dh]
     rw [e1,aL (by simpa using n1),aL (by simpa using n2)]
     rw [eL,eR,gO (own++w).length (by simp;omega)]
     have g1:(own++w++[x]++w2++[y])[(own++w).length]? =some x:=by
      rw [jG,jG,si (dy _),zL];rfl
     rw [g1]
     simp only [bf]
     rw [aY (by rw [kX];omega),gO (own++w++[x]++w2).length (by simp;omega)]
     have g2:(own++w++[x]++w2++[y])[(own++w++[x]++w2).length]? =some y:=by
      rw [si (dy _),zL];rfl
     rw [g2]
     simp only [bf]
     unfold re
     rw [e1,zx]
     simp only [bf]
     cases hb:(kn n.Tag x y).2 with
     |true=>
      simp only [mw,fL,d7,ep]
      rw [co (by simp;omega)];rfl
     |false=>rfl
    rw [hstep]
    cases hb:(kn n.Tag x y).2 with
    |true=>exact .inr ⟨(kn n.Tag x y).1,w++[x]++w2++[y],by simp,by simp;omega,by simp⟩
    |false=>exact .inl ⟨by simp,by simp⟩
def q6(m:Nat)(ns:List bo):Bool:=ns.all fun n=> !((n.Tag==2)&&decide ((m:Int)≤n.Col))
theorem Lk(m:Nat)(n:bo)(ns:List bo):q6 m (n::ns)=(!((n.Tag==2)&&decide ((m:Int)≤n.Col))&&q6 m ns):=rfl
theorem ye(m:Nat)(t:Tr):t.wf→ ∀s,q6 m (t.flat s)=true→Df m t:=by
 induction t with
 |lf n=>
  intro _ s h ht
  simp only [q6,Tr.flat,zM,List.all_nil,wH]at h
  have e1:(gX n (-1) (-1)).Tag=n.Tag:=rfl
  have e2:(gX n (-1) (-1)).Col=n.Col:=rfl
  simp [e1,e2,ht]at h
  exact h
 |un n a ih=>
  intro⟨_,ha⟩ s h
  simp only [q6,Tr.flat,D1,mi]at h
  exact ih ha s h.1
 |bi n a b iha ihb=>
  intro⟨_,ha,hb⟩ s h
  simp only [q6,Tr.flat,D1,mi]at h
  exact⟨iha ha s h.1.1,ihb hb _ h.1.2⟩
def za(kinds:List Int):Bool:=kinds.all fun k=>decide (0≤k)&&decide (k≤3)
theorem Bk(k:Int)(ks:List Int):za (k::ks)=((decide (0≤k)&&decide (k≤3))&&za ks):=rfl
theorem yI(h:za kinds=true){k:Int}(hk:k∈kinds):k4 k:=by
 have:=jZ.1 h k hk
 simp at this
 unfold k4;omega
def fF(e:bG)(kinds:List Int):Int×Int:=
 if j5 e.Nodes then if za kinds then if q6 kinds.length e.Nodes then match (mA e.Nodes).bind (kd kinds)with
  |some k=>(k,0)
  |none=>(0,201)else(0,2)else(0,2)else(0,200)
theorem FR(e:bG)(kinds:List Int): ∀cs:List Int,mV e kinds cs=if cs.all (fun c=>decide (c<(kinds.length:Int)))then o5 e (jv kinds)else some (0,2)
 |[]=>by
  unfold mV
  cases o5 e (jv kinds)<;>rfl
 |c::cs=>by
  unfold mV
  rw [FR e kinds cs]
  by_cases h:(kinds.length:Int)≤c
  ·rw [aY (by simpa using h),aL (by simp;omega)]
  ·rw [aL (by simpa using h)]
   have:c<(kinds.length:Int):=by omega
   simp [this]
theorem wq(e:bG)(kinds:List Int)(hl:e.Nodes.length≤50000):sR e kinds=some (fF e kinds):=by
 unfold sR fF
 rw [uY e (by omega)]
 cases hr:j5 e.Nodes with
 |false=>rfl
 |true=>
  simp only [ep,bf]
  rw [aL (by decide)]
  have key: ∀ks:List Int,qo e kinds ks=if za ks then(sT e).bind (mV e kinds)else some (0,2):=by
   intro ks
   induction ks with
   |nil=>rfl
   |cons k ks ih=>
    unfold qo
    rw [ih]
    by_cases h:k<0∨3<k
    ·rw [aY (by simpa using h),aL (by simp [za];omega)]
    ·rw [aL (by simpa using h)]
     have h1:(decide (0≤k)&&decide (k≤3))=true:=by simp;omega
     rw [Bk,h1,uM]
  rw [key]
  cases hk:za kinds with
  |false=>rfl
  |true=>
   simp only [ep]
   obtain⟨cs,h1,h2⟩:=Bw e hr
   rw [h1,bf,FR]
   have hci:cs.all (fun c=>decide (c<(kinds.length:Int)))=q6 kinds.length e.Nodes:=by
    rw [AC]
    simp only [jZ,kX,q6,Dn,Bool.and_eq_false_iff,beq_eq_false_iff_ne,F4]
    constructor
    ·intro h n hn
     by_cases ht:n.Tag=2
     ·exact .inr (by have:=h _ ((h2 n.Col).2 ⟨n,hn,ht,rfl⟩);omega)
     ·exact .inl ht
    ·intro h c hc
     obtain⟨n,hn,ht,rfl⟩:=(h2 c).1 hc
     rcases h n hn with h|h
     ·exact absurd ht h
     ·omega
   rw [hci]
   cases hc:q6 kinds.length e.Nodes with
   |false=>rfl
   |true=>
    simp only [ep]
    cases ht:mA e.Nodes with
    |none=>unfold j5 at hr;rw [ht]at hr;cases hr
    |some t=>
     obtain⟨hw,hN,hs⟩:=j8 ht
     have hct:=ye kinds.length t hw 0 (by rw [←hN];exact hc)
     have:=PL kinds (fun k=>yI hk) t hw hct 0 [] [] (by simp;omega)
     rw [rn,←hN]at this
     unfold o5
     rw [this]
     simp only [bf]
     cases kd kinds t with
     |none=>rfl
     |some k=>rfl
theorem ly(e:bG)(kinds:List Int):tp e kinds=some (fF e kinds):=by
 unfold tp fF
 rw [xD e]
 cases hr:j5 e.Nodes with
 |false=>rfl
 |true=>
  simp only [ep,bf,mw,fL,d7]
  have key2: ∀ns:List bo,oX e kinds ns=if q6 kinds.length ns then dh kinds e.Nodes []else some (0,2):=by
   intro ns
   induction ns with
   |nil=>rfl
   |cons n ns ih=>
    unfold oX
    rw [ih,Lk]
    cases ((n.Tag==2)&&decide ((kinds.length:Int)≤n.Col))<;>simp
  have key: ∀ks:List Int,rd e kinds ks=if za ks then oX e kinds e.Nodes else some (0,2):=by
   intro ks
   induction ks with
   |nil=>rfl
   |cons k ks ih=>
    unfold rd
    rw [ih]
    by_cases h:k<0∨3<k
    ·rw [aY (by simpa using h),aL (by simp [za];omega)]
    ·rw [aL (by simpa using h)]
     have h1:(decide (0≤k)&&decide (k≤3))=true:=by simp;omega
     rw [Bk,h1,uM]
  rw [key,key2]
  cases hk:za kinds with
  |false=>rfl
  |true=>
   cases hc:q6 kinds.length e.Nodes with
   |false=>rfl
   |true=>
    simp only [ep]
    cases ht:mA e.Nodes with
    |none=>unfold j5 at hr;rw [ht]at hr;cases hr
    |some t=>
     obtain⟨hw,hN,hs⟩:=j8 ht
     have hct:=ye kinds.length t hw 0 (by rw [←hN];exact hc)
     have:=Rd kinds (fun k=>yI hk) t hw hct [] [] (by simp;omega)
     rw [rn,pQ,←hN]at this
     simp only [bf]
     rcases this with⟨h1,h2⟩|⟨k,w,h1,h2,h3⟩
     ·rw [h1,h2]
     ·rw [h1,h3]
      unfold dh
      have hls:t.size≤1000:=hs
      rw [jY,gO w.length (by rw [cq (by simp<;>omega) (by simp<;>omega)];simp),si (dy _),zL]
      rfl
def Za(n:bo):Bool:=n.Tag==4||decide (12≤n.Tag)&&decide (n.Tag≤15)

def zV:ac:=⟨0,0,0,[]⟩
def bV(b:Bool):ac:=⟨1,if b then 1 else 0,0,[]⟩
def iV(n:Int):ac:=⟨2,n,0,[]⟩
def sV(s:xb):ac:=⟨3,0,0,s⟩
def r64(n:Int):Prop:= -9223372036854775808≤n∧n≤9223372036854775807
inductive Pl:ac→Prop
 |z:Pl zV
 |b (b:Bool):Pl (bV b)
 |i (n:Int) (h:r64 n):Pl (iV n)
 |s (s:xb) (h:s.length≤40):Pl (sV s)
theorem Pl.plain(h:Pl v):mM v=true:=by
 cases h with
 |z=>rfl
 |b b=>cases b<;>rfl
 |i n h=>simp [mM,fH,dF,iV]
 |s s h=>
  have h' :(s.length:Int)≤40:=by omega
  simp [mM,fH,dF,sV,h']
theorem Pl.right(h:Pl v):fH v=true:=by
 have:=h.plain
 unfold mM at this
 rw [mi]at this
 exact this.1
theorem ET(h:mM v=true)(hr:r64 v.N):Pl v:=by
 obtain⟨k,n,u,s⟩:=v
 unfold mM fH dF at h
 simp only [mi,qD,oU]at h
 obtain⟨h1,h2⟩:=h
 by_cases k0:k=0
 ·subst k0
  simp at h1
  rw [show(⟨0,n,u,s⟩:ac)=zV from by simp only [zV];simp [h1]]
  exact .z
 by_cases k1:k=1
 ·subst k1
  simp at h1
  obtain⟨⟨rfl,rfl⟩,h1⟩:=h1
  rcases h1 with rfl|rfl
  ·exact .b false
  ·exact .b true
 by_cases k2:k=2
 ·subst k2
  simp at h1
  obtain⟨rfl,rfl⟩:=h1
  exact .i n hr
 by_cases k3:k=3
 ·subst k3
  simp at h1
  obtain⟨⟨rfl,rfl⟩,h1⟩:=h1
  exact .s s (by omega)
 simp [k0,k1,k2,k3,h2]at h1
theorem Pl.r64(h:Pl v):r64 v.N:=by
 cases h with
 |z=>exact⟨by decide,by decide⟩
 |b b=>cases b<;>exact⟨by decide,by decide⟩
 |i n h=>exact h
 |s s h=>exact⟨by simp [sV],by simp [sV]⟩
theorem Pl.check(h:Pl v):k6 v=some 0:=by rw [nT,h.right];rfl
theorem Pl.plain_eq(h:Pl v):ml v=some true:=by rw [s8,h.plain]
theorem Rc{b:ac}(ha:Pl a)(hb:Pl b):pG [a,b]=some 0:=by
 unfold pG jn jn jn
 simp [ha.check,hb.check]
theorem Lr{b:ac}(ha:Pl a)(hb:Pl b)(to:Int→Int→Option (Int×Bool)):rK a b to=
  if(a.Kind=0∨a.Kind=2)∧(b.Kind=0∨b.Kind=2)then(if a.Kind=0∨b.Kind=0 then some (zV,0)else(to a.N b.N).bind fun r=>if r.2 then some (iV r.1,0)else some (zV,140))else some (zV,2):=by
 unfold rK pO j7 j7 j7
 simp only [ha.check,hb.check,bf]
 cases ha<;>cases hb<;>simp [zV,bV,iV,sV,pm,oC]
 congr 1
 funext r
 cases r.2<;>rfl
inductive Tu:ac→Prop
 |z:Tu zV
 |b (b:Bool):Tu (bV b)
theorem Tu.pl(h:Tu v):Pl v:=by cases h;exact .z;exact .b _
theorem iY(h:Pl v):Tu v↔v.Kind≤1:=by
 constructor
 ·intro h;cases h<;>simp [zV,bV]
 ·intro hk
  cases h with
  |z=>exact .z
  |b b=>exact .b b
  |i n h=>simp [iV]at hk
  |s s h=>simp [sV]at hk
def tn(v:ac):Int:=if v.Kind=0 then 1 else 2*v.N
def tv(n:Int):ac:=if n=0 then bV false else if n=1 then zV else bV true
theorem QW(h:Tu v):tn v=0∨tn v=1∨tn v=2:=by
 cases h with
 |z=>exact .inr (.inl rfl)
 |b b=>cases b;exact .inl rfl;exact .inr (.inr rfl)
theorem Ed(h:Tu v):xu v=some (tn v):=by
 cases h with
 |z=>rfl
 |b b=>cases b<;>rfl
theorem QS{n:Int}(h:n=0∨n=1∨n=2):Tu (tv n):=by
 rcases h with rfl|rfl|rfl
 ·exact .b false
 ·exact .z
 ·exact .b true
theorem ML(h:Pl v)(hn: ¬Tu v):decide (1<v.Kind)=true:=by
 rw [iY h]at hn;simp;omega
theorem ZZ(h:Tu v):decide (1<v.Kind)=false:=by
 have:=(iY h.pl).1 h;simp;omega
def FJ(a b:ac):ac:=tv (min (tn a) (tn b))
def Tm(a b:ac):ac:=tv (max (tn a) (tn b))
def Gq(a:ac):ac:=tv (2-tn a)
theorem HW{b:ac}(ha:Tu a)(hb:Tu b):sI a b=some (FJ a b,0):=by
 cases ha with
 |z=>cases hb with
  |z=>rfl
  |b b=>cases b<;>rfl
 |b x=>cases hb with
  |z=>cases x<;>rfl
  |b b=>cases x<;>cases b<;>rfl
theorem JC{b:ac}(ha:Tu a)(hb:Tu b):u9 a b=some (Tm a b,0):=by
 cases ha with
 |z=>cases hb with
  |z=>rfl
  |b b=>cases b<;>rfl
 |b x=>cases hb with
  |z=>cases x<;>rfl
  |b b=>cases x<;>cases b<;>rfl
theorem AQ(ha:Tu a):qG a=some (Gq a,0):=by
 cases ha with
 |z=>rfl
 |b x=>cases x<;>rfl
theorem Fa{b:ac}(ha:Pl a)(hb:Pl b)(h: ¬(Tu a∧Tu b))(to:List Int→Option Int):nR to [a,b]=some (zV,2):=by
 unfold nR
 rw [Rc ha hb]
 simp only [bf]
 rw [aL (by decide)]
 unfold lM
 by_cases h1:Tu a
 ·have h2: ¬Tu b:=fun k=>h ⟨h1,k⟩
  rw [ZZ h1]
  simp only [fL,d7,Ed h1,bf]
  rw [co (by simp)]
  simp only [bf]
  unfold lM
  rw [ML hb h2,aY rfl];rfl
 ·rw [ML ha h1,aY rfl];rfl
theorem F7(ha:Pl a)(h: ¬Tu a):qG a=some (zV,2):=by
 unfold qG nR pG jn jn
 rw [ha.check]
 simp only [bf]
 rw [aL (by decide)]
 unfold lM
 simp only [bf]
 rw [aL (by decide),ML ha h,aY rfl];rfl
def FE(a b:ac):Int:=(lu a b).getD 0
theorem B0{b:ac}(ha:Pl a)(hb:Pl b):lu a b=some (FE a b):=by
 unfold FE
 have: ∃c,lu a b=some c:=by
  unfold lu
  rw [ha.plain_eq,hb.plain_eq]
  simp only [bf,mw,BW,ep,d7]
  unfold iM nE gD kV pe ja
  simp only [DX,bf,fL,d7]
  have h1: ∀x y:Int,∃c,(if decide (x<y)=true then some (-1:Int)else if decide (y<x)=true then some 1 else some 0)=some c:=by
   intro x y;repeat' split
   all_goals exact⟨_,rfl⟩
  obtain⟨c1,e1⟩:=h1 a.Kind b.Kind
  obtain⟨c2,e2⟩:=h1 a.N b.N
  rw [e1,e2]
  simp only [bf]
  unfold mY fW fW fW fW
  repeat' split
  all_goals exact⟨_,rfl⟩
 obtain⟨c,h⟩:=this
 rw [h];rfl
theorem Ut{b:ac}(ha:Pl a)(hb:Pl b){is:Int→Option Bool}{f:Int→Bool}(hf: ∀c,is c=some (f c)):qF a b is=
  some (if a.Kind=0∨b.Kind=0 then(zV,0)else if a.Kind=b.Kind then(bV (f (FE a b)),0)else(zV,2)):=by
 unfold qF
 rw [Rc ha hb]
 simp only [bf,B0 ha hb,hf,pm]
 have hbv: ∀x,pn x=some (bV x):=fun x=>by cases x<;>rfl
 simp only [hbv,bf]
 cases ha<;>cases hb<;>simp [zV,bV,iV,sV]

def BA:List (Int×(ac→ac→Option (ac×Int))):=(yM).getD []
theorem I7:yM=some BA:=rfl
def VY(tag:Int):ac→ac→Option (ac×Int):=(pw BA tag).getD (fun _ _=>none)
theorem dz4:VY 4=mU yR:=rfl
theorem dz5:VY 5=mU qG:=rfl
theorem dz6:VY 6=oo true:=rfl
theorem dz7:VY 7=oo false:=rfl
theorem acw:VY 20=lB nS:=rfl
theorem acv:VY 22=sI:=rfl
theorem acu:VY 23=u9:=rfl
def Nv(tag x y:Int):Int×Bool:=(if tag=12 then rL x y else if tag=13 then pP x y else if tag=14 then mq x y else mt x y).getD (0,false)
theorem oZ(n:Int):r64 (IntKind.i64.wrap n):=by rw [vN];unfold r64;omega
theorem GM{n:Int}(h:0≤n)(h2:n<18446744073709551616):IntKind.u64.wrap n=n:=by rw [ue];omega
theorem uk(n:Int)(h:r64 n):pD n=some (n.natAbs:Int):=by
 unfold r64 at h
 unfold pD
 by_cases hn:n<0
 ·rw [aY (by simpa using hn),ue,ue]
  congr 1;omega
 ·rw [aL (by simpa using hn),ue]
  congr 1;omega
theorem Xi(tag x y:Int)(hx:r64 x)(hy:r64 y):(if tag=12 then rL x y else if tag=13 then pP x y else if tag=14 then mq x y else mt x y)=some (Nv tag x y)∧r64 (Nv tag x y).1:=by
 unfold Nv
 split
 ·exact⟨rfl,oZ _⟩
 ·split
  ·exact⟨rfl,oZ _⟩
  ·split
   ·unfold mq na m5
    simp only [uk x hx,uk y hy,bf]
    split
    ·exact⟨rfl,oZ _⟩
    ·exact⟨rfl,oZ _⟩
   ·unfold mt
    by_cases h0:y=0
    ·subst h0;exact⟨rfl,show r64 0 from⟨by decide,by decide⟩⟩
    ·rw [aL (by simpa using h0)]
     simp only [uk x hx,uk y hy,bf]
     have hn:nz ((y.natAbs:Nat):Int)=some ():=by
      unfold nz
      rw [aL (by omega)]
     rw [hn]
     unfold m5
     simp only [bf]
     split
     ·exact⟨rfl,oZ _⟩
     ·exact⟨rfl,oZ _⟩
def w8(tag:Int)(a b:ac):ac×Int:=
 if(a.Kind=0∨a.Kind=2)∧(b.Kind=0∨b.Kind=2)then(if a.Kind=0∨b.Kind=0 then(zV,0)else if(Nv tag a.N b.N).2 then(iV (Nv tag a.N b.N).1,0)else(zV,140))else(zV,2)
def eC(f:Int→Bool)(a b:ac):ac×Int:=if a.Kind=0∨b.Kind=0 then(zV,0)else if a.Kind=b.Kind then(bV (f (FE a b)),0)else(zV,2)
def E3(q:ac×Int):ac×Int:=if q.2=0 then(Gq q.1,0)else q
def Cd(tag:Int)(a b:ac):ac×Int:=
 if tag=4 then w8 13 (iV 0) a else
 if tag=5 then(if a.Kind≤1 then(Gq a,0)else(zV,2))else
 if tag=6 then(bV (a.Kind==0),0)else
 if tag=7 then(bV (a.Kind !=0),0)else
 if tag≤15 then w8 tag a b else
 if tag=16 then eC (fun c=>c==0) a b else
 if tag=17 then E3 (eC (fun c=>c==0) a b)else
 if tag=18 then eC (fun c=>decide (c<0)) a b else
 if tag=19 then E3 (eC (fun c=>decide (c<0)) b a)else
 if tag=20 then eC (fun c=>decide (c<0)) b a else
 if tag=21 then E3 (eC (fun c=>decide (c<0)) a b)else
 if tag=22 then(if a.Kind≤1∧b.Kind≤1 then(FJ a b,0)else(zV,2))else
 (if a.Kind≤1∧b.Kind≤1 then(Tm a b,0)else(zV,2))
theorem rF(f:Int→Bool)(a b:ac):(eC f a b).2=0→Tu (eC f a b).1:=by
 unfold eC
 split
 ·intro _;exact .z
 ·split
  ·intro _;exact .b _
  ·intro h;cases h
theorem Cl(f:Int→Bool)(a b:ac):(eC f a b).2≠0→eC f a b=(zV,2):=by
 unfold eC
 split
 ·intro h;exact absurd rfl h
 ·split
  ·intro h;exact absurd rfl h
  ·intro _;rfl
theorem E1{do1:ac→ac→Option (ac×Int)}{b:ac}{f:Int→Bool}{x y:ac}(h:do1 a b=some (eC f x y)):tP do1 a b=some (E3 (eC f x y)):=by
 unfold tP E3
 rw [h]
 simp only [bf]
 by_cases h0:(eC f x y).2=0
 ·rw [aL (by simp [h0]),aY h0,AQ (rF f x y h0)];rfl
 ·rw [aY (by simpa using h0),aL h0]
theorem FG{b:ac}(ha:Pl a)(hb:Pl b){to:Int→Int→Option (Int×Bool)}(h: ∀x y,to x y=if tag=12 then rL x y else if tag=13 then pP x y else if tag=14 then mq x y else mt x y):
  (rK a b to).bind (fun r=>some (r.1,r.2))=some (w8 tag a b):=by
 rw [Lr ha hb]
 unfold w8
 split
 ·split
  ·rfl
  ·rw [h,(Xi tag a.N b.N ha.r64 hb.r64).1]
   simp only [bf]
   split<;>rfl
 ·rfl
theorem He{b:ac}(ha:Pl a)(hb:Pl b){is:Int→Option Bool}{f:Int→Bool}(hf: ∀c,is c=some (f c)):(qF a b is).bind (fun r=>some (r.1,r.2))=some (eC f a b):=by
 rw [Ut ha hb hf];rfl
theorem xw{b:ac}(ha:Pl a)(hb:Pl b):ro a b=some (eC (fun c=>c==0) a b):=He ha hb fun _=>rfl
theorem rb{b:ac}(ha:Pl a)(hb:Pl b):nS a b=some (eC (fun c=>decide (c<0)) a b):=He ha hb fun _=>rfl
theorem Rh(h:pk tag=some k)(hk:k≠0):tag=4∨tag=5∨tag=6∨tag=7∨tag=12∨tag=13∨tag=14∨tag=15∨tag=16∨tag=17∨tag=18∨tag=19∨tag=20∨tag=21∨tag=22∨tag=23:=by
 unfold pk at h
 repeat' split at h
 all_goals simp at h
 ·exact absurd h.symm hk
 all_goals omega
theorem YX(h:pk tag=some k)(hk:k≠0){b:ac}(ha:Pl a)(hb:Pl b):VY tag a b=some (Cd tag a b):=by
 have hbv: ∀x,pn x=some (bV x):=fun x=>by cases x<;>rfl
 rcases Rh h hk with rfl|rfl|rfl|rfl|rfl|rfl|rfl|rfl|rfl|rfl|rfl|rfl|rfl|rfl|rfl|rfl
 ·rw [dz4];unfold mU yR oC
  simp only [bf]
  have:=FG (tag:=13) (Pl.i 0 ⟨by decide,by decide⟩) ha (to:=pP) (fun _ _=>rfl)
  have h2:vB (iV 0) a=some (w8 13 (iV 0) a):=this
  rw [show(⟨2,0,0,[]⟩:ac)=iV 0 from rfl,h2];rfl
 ·rw [dz5];unfold mU Cd
  rw [aL (by decide),aY rfl]
  by_cases ht:Tu a
  ·rw [AQ ht,aY ((iY ha).1 ht)];rfl
  ·rw [F7 ha ht,aL (fun h=>ht ((iY ha).2 h))];rfl
 ·rw [dz6];unfold oo
  rw [hbv]
  simp only [bf]
  unfold Cd
  rw [aL (by decide),aL (by decide),aY rfl]
  cases hx:(a.Kind==0)<;>rfl
 ·rw [dz7];unfold oo
  rw [hbv]
  simp only [bf]
  unfold Cd
  rw [aL (by decide),aL (by decide),aL (by decide),aY rfl]
  simp only [bne]
  cases hx:(a.Kind==0)<;>rfl
 ·exact FG (tag:=12) ha hb fun _ _=>rfl
 ·exact FG (tag:=13) ha hb fun _ _=>rfl
 ·exact FG (tag:=14) ha hb fun _ _=>rfl
 ·exact FG (tag:=15) ha hb fun _ _=>rfl
 ·exact xw ha hb
 ·exact E1 (xw ha hb)
 ·exact rb ha hb
 ·exact E1 (do1:=lB nS) (by unfold lB;rw [rb hb ha];rfl)
 ·rw [acw];unfold lB;rw [rb hb ha];rfl
 ·exact E1 (rb ha hb)
 ·rw [acv]
  show _=some (if a.Kind≤1∧b.Kind≤1 then(FJ a b,0)else(zV,2))
  by_cases ht:Tu a∧Tu b
  ·rw [HW ht.1 ht.2,aY ⟨(iY ha).1 ht.1,(iY hb).1 ht.2⟩]
  ·rw [aL (fun h=>ht ⟨(iY ha).2 h.1,(iY hb).2 h.2⟩)]
   unfold sI
   rw [Fa ha hb ht];rfl
 ·rw [acu]
  show _=some (if a.Kind≤1∧b.Kind≤1 then(Tm a b,0)else(zV,2))
  by_cases ht:Tu a∧Tu b
  ·rw [JC ht.1 ht.2,aY ⟨(iY ha).1 ht.1,(iY hb).1 ht.2⟩]
  ·rw [aL (fun h=>ht ⟨(iY ha).2 h.1,(iY hb).2 h.2⟩)]
   unfold u9
   rw [Fa ha hb ht];rfl
theorem Y9{b:ac}(ha:Pl a)(hb:Pl b):(w8 tag a b).2=0→Pl (w8 tag a b).1:=by
 unfold w8
 split
 ·split
  ·intro _;exact .z
  ·split
   ·intro _;exact .i _ (Xi tag a.N b.N ha.r64 hb.r64).2
   ·intro h;cases h
 ·intro h;cases h
theorem Wd(tag:Int)(a b:ac):(w8 tag a b).2≠0→w8 tag a b=(zV,140)∨w8 tag a b=(zV,2):=by
 unfold w8
 split
 ·split
  ·intro h;exact absurd rfl h
  ·split
   ·intro h;exact absurd rfl h
   ·intro _;exact .inl rfl
 ·intro _;exact .inr rfl
theorem DF(h:Tu a):Tu (Gq a):=by
 unfold Gq
 apply QS
 have:=QW h;omega
theorem Pf{b:ac}(h:Tu a)(k:Tu b):Tu (FJ a b):=by
 apply QS
 have:=QW h;have:=QW k;omega
theorem Rl{b:ac}(h:Tu a)(k:Tu b):Tu (Tm a b):=by
 apply QS
 have:=QW h;have:=QW k;omega
theorem X6(f:Int→Bool)(a b:ac):(E3 (eC f a b)).2=0→Tu (E3 (eC f a b)).1:=by
 unfold E3
 split
 ·rename_i h;intro _;exact DF (rF f a b h)
 ·rename_i h;intro k;exact absurd k h
theorem Ud(f:Int→Bool)(a b:ac):(E3 (eC f a b)).2≠0→E3 (eC f a b)=(zV,2):=by
 unfold E3
 split
 ·intro h;exact absurd rfl h
 ·rename_i h;intro _;exact Cl f a b h
theorem Cc(h:pk tag=some k)(hk:k≠0){b:ac}(ha:Pl a)(hb:Pl b):
  ((Cd tag a b).2=0∧Pl (Cd tag a b).1)∨Cd tag a b=(zV,2)∨(Cd tag a b=(zV,140)∧(tag=4∨(12≤tag∧tag≤15))):=by
 have har: ∀t x y,Pl x→Pl y→((w8 t x y).2=0∧Pl (w8 t x y).1)∨w8 t x y=(zV,2)∨w8 t x y=(zV,140):=by
  intro t x y hx hy
  by_cases h0:(w8 t x y).2=0
  ·exact .inl ⟨h0,Y9 hx hy h0⟩
  ·rcases Wd t x y h0 with h|h
   ·exact .inr (.inr h)
   ·exact .inr (.inl h)
 have hh: ∀f x y,((eC f x y).2=0∧Pl (eC f x y).1)∨eC f x y=(zV,2):=by
  intro f x y
  by_cases h0:(eC f x y).2=0
  ·exact .inl ⟨h0,(rF f x y h0).pl⟩
  ·exact .inr (Cl f x y h0)
 have hn: ∀f x y,((E3 (eC f x y)).2=0∧Pl (E3 (eC f x y)).1)∨E3 (eC f x y)=(zV,2):=by
  intro f x y
  by_cases h0:(E3 (eC f x y)).2=0
  ·exact .inl ⟨h0,(X6 f x y h0).pl⟩
  ·exact .inr (Ud f x y h0)
 rcases Rh h hk with rfl|rfl|rfl|rfl|rfl|rfl|rfl|rfl|rfl|rfl|rfl|rfl|rfl|rfl|rfl|rfl
 ·rcases har 13 (iV 0) a (.i 0 ⟨by decide,by decide⟩) ha with h|h|h
  ·exact .inl h
  ·exact .inr (.inl h)
  ·exact .inr (.inr ⟨h,.inl rfl⟩)
 ·show _∨_∨_
  unfold Cd
  rw [aL (by decide),aY rfl]
  split
  ·rename_i hk;exact .inl ⟨rfl,(DF ((iY ha).2 hk)).pl⟩
  ·exact .inr (.inl rfl)
 ·exact .inl ⟨rfl,.b _⟩
 ·exact .inl ⟨rfl,.b _⟩
 ·rcases har 12 a b ha hb with h|h|h
  ·exact .inl h
  ·exact .inr (.inl h)
  ·exact .inr (.inr ⟨h,by decide⟩)
 ·rcases har 13 a b ha hb with h|h|h
  ·exact .inl h
  ·exact .inr (.inl h)
  ·exact .inr (.inr ⟨h,by decide⟩)
 ·rcases har 14 a b ha hb with h|h|h
  ·exact .inl h
  ·exact .inr (.inl h)
  ·exact .inr (.inr ⟨h,by decide⟩)
 ·rcases har 15 a b ha hb with h|h|h
  ·exact .inl h
  ·exact .inr (.inl h)
  ·exact .inr (.inr ⟨h,by decide⟩)
 ·exact(hh (fun c=>c==0) a b).imp_right .inl
 ·exact(hn (fun c=>c==0) a b).imp_right .inl
 ·exact(hh (fun c=>decide (c<0)) a b).imp_right .inl
 ·exact(hn (fun c=>decide (c<0)) b a).imp_right .inl
 ·exact(hh (fun c=>decide (c<0)) b a).imp_right .inl
 ·exact(hn (fun c=>decide (c<0)) a b).imp_right .inl
 ·show _∨_∨_
  rw [show Cd 22 a b=if a.Kind≤1∧b.Kind≤1 then(FJ a b,0)else(zV,2)from rfl]
  split
  ·rename_i h;exact .inl ⟨rfl,(Pf ((iY ha).2 h.1) ((iY hb).2 h.2)).pl⟩
  ·exact .inr (.inl rfl)
 ·show _∨_∨_
  rw [show Cd 23 a b=if a.Kind≤1∧b.Kind≤1 then(Tm a b,0)else(zV,2)from rfl]
  split
  ·rename_i h;exact .inl ⟨rfl,(Rl ((iY ha).2 h.1) ((iY hb).2 h.2)).pl⟩
  ·exact .inr (.inl rfl)

def dz(tag:Int)(a b:ac):ac×Int:=if(Cd tag a b).2=0 then Cd tag a b else(zV,if(Cd tag a b).2=140 then 140 else 201)
def Di(q:ac×Int)(f:ac→ac×Int):ac×Int:=if q.2=0 then f q.1 else q
def ev(r:List ac):Tr→ac×Int
 | .lf n=>if n.Tag=1 then(n.Value,0)else((r[n.Col.toNat]?).getD zV,0)
 | .un n a=>Di (ev r a) fun x=>dz n.Tag x x
 | .bi n a b=>Di (ev r a) fun x=>Di (ev r b) fun y=>dz n.Tag x y
def Tl:Tr→Prop
 | .lf n=>r64 n.Value.N
 | .un _ a=>Tl a
 | .bi _ a b=>Tl a∧Tl b
def yd(r:List ac):Tr→Prop
 | .lf n=>n.Tag=2→n.Col.toNat<r.length∧ ∃v,r[n.Col.toNat]? =some v∧Pl v
 | .un _ a=>yd r a
 | .bi _ a b=>yd r a∧yd r b
theorem vy(h:pk tag=some k)(hk:k≠0){b:ac}(ha:Pl a)(hb:Pl b):
  ((dz tag a b).2=0∧Pl (dz tag a b).1∧dz tag a b=Cd tag a b)∨(dz tag a b=(zV,201)∧Cd tag a b=(zV,2))∨(dz tag a b=(zV,140)∧Cd tag a b=(zV,140)∧(tag=4∨(12≤tag∧tag≤15))):=by
 unfold dz
 rcases Cc h hk ha hb with⟨h1,h2⟩|h1|⟨h1,h2⟩
 ·rw [aY h1];exact .inl ⟨h1,h2,rfl⟩
 ·rw [h1];exact .inr (.inl ⟨rfl,rfl⟩)
 ·rw [h1];exact .inr (.inr ⟨rfl,rfl,h2⟩)
theorem OW(r:List ac)(n:bo)(a:Tr):ev r (.un n a)=Di (ev r a) fun x=>dz n.Tag x x:=rfl
theorem OX(r:List ac)(n:bo)(a b:Tr):ev r (.bi n a b)=Di (ev r a) fun x=>Di (ev r b) fun y=>dz n.Tag x y:=rfl
theorem nj{q:ac×Int}{f:ac→ac×Int}(h:q.2=0):Di q f=f q.1:=aY h
theorem jf{q:ac×Int}{f:ac→ac×Int}(h:q.2≠0):Di q f=q:=aL h
theorem nh(r:List ac)(t:Tr):t.wf→Tl t→yd r t→((ev r t).2=0∧Pl (ev r t).1)∨ev r t=(zV,201)∨ev r t=(zV,140):=by
 induction t with
 |lf n=>
  intro⟨h1,h2,_,_⟩ hr hc
  unfold ev
  split
  ·rename_i ht;exact .inl ⟨rfl,ET (aap h2 ht) hr⟩
  ·rename_i ht
   have ht2:n.Tag=2:=(Zh h1).resolve_left ht
   obtain⟨_,v,hv,hp⟩:=hc ht2
   rw [hv];exact .inl ⟨rfl,hp⟩
 |un n a ih=>
  intro⟨⟨h1,_,_,_⟩,ha⟩ hr hc
  rw [OW]
  rcases ih ha hr hc with⟨h2,h3⟩|h2|h2
  ·rw [nj h2]
   rcases vy h1 (by decide) h3 h3 with⟨h4,h5,_⟩|⟨h4,_⟩|⟨h4,_⟩
   ·exact .inl ⟨h4,h5⟩
   ·exact .inr (.inl h4)
   ·exact .inr (.inr h4)
  ·rw [h2,jf (by decide)];exact .inr (.inl rfl)
  ·rw [h2,jf (by decide)];exact .inr (.inr rfl)
 |bi n a b iha ihb=>
  intro⟨⟨h1,_,_,_⟩,ha,hb⟩ ⟨hra,hrb⟩ ⟨hca,hcb⟩
  rw [OX]
  rcases iha ha hra hca with⟨h2,h3⟩|h2|h2
  ·rw [nj h2]
   rcases ihb hb hrb hcb with⟨k2,k3⟩|k2|k2
   ·rw [nj k2]
    rcases vy h1 (by decide) h3 k3 with⟨h4,h5,_⟩|⟨h4,_⟩|⟨h4,_⟩
    ·exact .inl ⟨h4,h5⟩
    ·exact .inr (.inl h4)
    ·exact .inr (.inr h4)
   ·rw [k2,jf (by decide)];exact .inr (.inl rfl)
   ·rw [k2,jf (by decide)];exact .inr (.inr rfl)
  ·rw [h2,jf (by decide)];exact .inr (.inl rfl)
  ·rw [h2,jf (by decide)];exact .inr (.inr rfl)
theorem Iu(stack l:List ac)(h:stack.length+l.length≤100000):kL (stack++l) (l.length:Int)=some (l,stack):=by
 unfold kL fD
 have e:IntKind.i64.wrap (((stack++l).length:Int)-(l.length:Int))=(stack.length:Int):=by
  rw [iI,cq (by omega) (by omega)];omega
 rw [e,lO stack.length (stack++l).length rfl rfl (by simp) (dy _)]
 simp only [bf,xm,GK (dy _),List.drop_length,jY]
 rw [co (by simp;omega)]
 simp only [bf,jY]
 rw [lO (i:=0) 0 stack.length rfl rfl (lF _) (by simp)]
 simp
theorem yC(stack:List ac){b:Int}(h:b≠0):gm b stack=some (zV,b):=by
 unfold gm;rw [aY (by simpa using h)];rfl
theorem HE(r:List ac)(n:bo)(h:pk n.Tag=some k)(hk:k≠0){b:ac}(ha:Pl a)(hb:Pl b){l:List ac}(h0:cN l 0=some a)(h1:cN l (IntKind.i64.wrap ((l.length:Int)-1))=some b):
  iL r BA n l=some ((Cd n.Tag a b).1,(dz n.Tag a b).2):=by
 have hn:=Rh h hk
 unfold iL
 rw [aL (by simp;omega),aL (by simp;omega),h0]
 simp only [bf]
 rw [h1]
 simp only [bf]
 have:=YX h hk ha hb
 unfold VY at this
 rw [this]
 simp only [bf]
 unfold qp
 rcases vy h hk ha hb with⟨h2,_,h4⟩|⟨h2,h4⟩|⟨h2,h4,_⟩
 ·rw [h4]at h2;rw [h4,h2];rfl
 ·rw [h2,h4];rfl
 ·rw [h2,h4];rfl
theorem Mz(r:List ac)(t:Tr):t.wf→Tl t→yd r t→ ∀(s:Nat) (rest:List bo) (stack:List ac),stack.length+t.size≤50000→
  dD (iL r BA) (t.flat s++rest) 0 stack=if(ev r t).2=0 then dD (iL r BA) rest 0 (stack++[(ev r t).1])else some (zV,(ev r t).2):=by
 induction t with
 |lf n=>
  intro⟨h1,h2,h3,h4⟩ hr hc s rest stack hl
  simp only [Tr.flat,Tr.size,vO,jY]at hl ⊢
  rw [dD]
  have e1:(gX n (-1) (-1)).Tag=n.Tag:=rfl
  rw [e1,nD h1]
  have h0:=Iu stack [] (by simp;omega)
  simp only [rn,pQ]at h0
  simp only [bf]
  rw [h0]
  simp only [bf]
  have hv:iL r BA (gX n (-1) (-1)) []=some (ev r (.lf n)):=by
   unfold iL ev
   simp only [e1]
   rcases Zh h1 with ht|ht
   ·rw [aY (by simp [ht]),aY ht];rfl
   ·rw [aL (by simp [ht]),aY (by simp [ht]),aL (by simp [ht])]
    have hb:=Nq h2 ht
    obtain⟨hm,v,hv,_⟩:=hc ht
    have e2:(gX n (-1) (-1)).Col=n.Col:=rfl
    rw [e2,gO n.Col.toNat (by omega),hv]
    rfl
  have e0:(ev r (.lf n)).2=0:=by unfold ev;split<;>rfl
  rw [hv,aY e0]
  simp only [bf,e0]
  rw [aL (by simp),co (by simp;omega)]
  rfl
 |un n a ih=>
  intro⟨⟨h1,h2,h3,h4⟩,ha⟩ hr hc s rest stack hl
  simp only [Tr.flat,Tr.size,jG]at hl ⊢
  rw [OW,ih ha hr hc s _ stack (by omega)]
  by_cases hx:(ev r a).2=0
  ·have hp:Pl (ev r a).1:=by
    rcases nh r a ha hr hc with⟨_,h⟩|h|h
    ·exact h
    ·rw [h]at hx;cases hx
    ·rw [h]at hx;cases hx
   rw [aY hx,nj hx]
   generalize (ev r a).1=x at hp
   simp only [vO,jY]
   rw [dD]
   have e1:(gX n (((s+a.size:Nat):Int)-1) (-1)).Tag=n.Tag:=rfl
   rw [e1,nD h1]
   have h0:=Iu stack [x] (by simp;omega)
   simp only [bf]
   have e0:(([x]:List ac).length:Int)=((1:Nat):Int):=rfl
   rw [←e0,h0]
   simp only [bf]
   rw [HE r (gX n (((s+a.size:Nat):Int)-1) (-1)) (k:=1) h1 (by decide) hp hp rfl rfl]
   simp only [bf,e1]
   rcases vy h1 (by decide) hp hp with⟨h5,_,h6⟩|⟨h5,_⟩|⟨h5,_⟩
   ·rw [aL (by simp [h5]),aY h5,co (by simp;omega),h6];rfl
   ·rw [h5,aY (by decide),yC _ (by decide),aL (by decide)]
   ·rw [h5,aY (by decide),yC _ (by decide),aL (by decide)]
  ·rw [aL hx,jf hx,aL hx]
 |bi n a b iha ihb=>
  intro⟨⟨h1,h2,h3,h4⟩,ha,hb⟩ ⟨hra,hrb⟩ ⟨hca,hcb⟩ s rest stack hl
  simp only [Tr.flat,Tr.size,jG]at hl ⊢
  rw [OX,iha ha hra hca s _ stack (by omega)]
  by_cases hx:(ev r a).2=0
  ·have hp:Pl (ev r a).1:=by
    rcases nh r a ha hra hca with⟨_,h⟩|h|h
    ·exact h
    ·rw [h]at hx;cases hx
    ·rw [h]at hx;cases hx
   rw [aY hx,nj hx]
   generalize (ev r a).1=x at hp
   rw [ihb hb hrb hcb (s+a.size) _ (stack++[x]) (by have:=a.size_pos;simp;omega)]
   by_cases hy:(ev r b).2=0
   ·have hq:Pl (ev r b).1:=by
     rcases nh r b hb hrb hcb with⟨_,h⟩|h|h
     ·exact h
     ·rw [h]at hy;cases hy
     ·rw [h]at hy;cases hy
    rw [aY hy,nj hy]
    generalize (ev r b).1=y at hq
    have hap:=a.size_pos
    simp only [vO,jY]
    rw [dD]
    have e1:(gX n (((s+a.size:Nat):Int)-1) (((s+a.size+b.size:Nat):Int)-1)).Tag=n.Tag:=rfl
    rw [e1,nD h1]
    have h0:=Iu stack [x,y] (by simp;omega)
    simp only [bf]
    have e0:(([x,y]:List ac).length:Int)=((2:Nat):Int):=rfl
    have e9:stack++[x]++[y]=stack++[x,y]:=by simp
    rw [←e0,e9,h0]
    simp only [bf]
    rw [HE r (gX n (((s+a.size:Nat):Int)-1) (((s+a.size+b.size:Nat):Int)-1)) (k:=2) h1 (by decide) hp hq rfl rfl]
    simp only [bf,e1]
    rcases vy h1 (by decide) hp hq with⟨h5,_,h6⟩|⟨h5,_⟩|⟨h5,_⟩
    ·rw [aL (by simp [h5]),aY h5,co (by simp;omega),h6];rfl
    ·rw [h5,aY (by decide),yC _ (by decide),aL (by decide)]
    ·rw [h5,aY (by decide),yC _ (by decide),aL (by decide)]
   ·rw [aL hy,jf hy,aL hy]
  ·rw [aL hx,jf hx,aL hx]
def zc(r:List ac)(c:Int):Bool:=decide (c<(r.length:Int))&&mM ((r[c.toNat]?).getD zV)
def tU(r:List ac)(ns:List bo):Bool:=ns.all fun n=> !(n.Tag==2)||zc r n.Col
def If(ns:List bo):Prop:= ∀n∈ns,r64 n.Value.N
def TT(r:List ac):Prop:= ∀v∈r,r64 v.N
theorem Qp(hr:TT r){c:Int}(h0:0≤c)(h:zc r c=true):c.toNat<r.length∧ ∃v,r[c.toNat]? =some v∧Pl v:=by
 unfold zc at h
 rw [mi,kX]at h
 have hlt:c.toNat<r.length:=by omega
 refine⟨hlt,r[c.toNat],oO hlt,?_⟩
 have h2:=h.2
 rw [oO hlt]at h2
 exact ET h2 (hr _ (List.getElem_mem hlt))
theorem ww(hr:TT r)(t:Tr):t.wf→ ∀s,tU r (t.flat s)=true→yd r t:=by
 induction t with
 |lf n=>
  intro⟨_,h2,_,_⟩ s h ht
  simp only [tU,Tr.flat,zM,List.all_nil,wH]at h
  have e1:(gX n (-1) (-1)).Tag=n.Tag:=rfl
  have e2:(gX n (-1) (-1)).Col=n.Col:=rfl
  rw [e1,e2,ht]at h
  exact Qp hr (Nq h2 ht).1 (by simpa using h)
 |un n a ih=>
  intro⟨_,ha⟩ s h
  simp only [tU,Tr.flat,D1,mi]at h
  exact ih ha s h.1
 |bi n a b iha ihb=>
  intro⟨_,ha,hb⟩ s h
  simp only [tU,Tr.flat,D1,mi]at h
  exact⟨iha ha s h.1.1,ihb hb _ h.1.2⟩
theorem A6(t:Tr): ∀s,If (t.flat s)→Tl t:=by
 induction t with
 |lf n=>intro s h;exact h (gX n (-1) (-1)) (by simp [Tr.flat])
 |un n a ih=>intro s h;exact ih s fun m hm=>h m (by simp [Tr.flat,hm])
 |bi n a b iha ihb=>intro s h;exact⟨iha s fun m hm=>h m (by simp [Tr.flat,hm]),ihb _ fun m hm=>h m (by simp only [Tr.flat,vM];exact .inl (.inr hm))⟩
theorem Eh{t:Tr}(hw:t.wf): ∀s {n:bo},n∈t.flat s→n.Tag=2→0≤n.Col∧n.Col<16:=by
 induction t with
 |lf m=>
  intro s n hn ht
  simp only [Tr.flat,zN]at hn
  subst hn
  exact Nq hw.2.1 ht
 |un m a ih=>
  intro s n hn ht
  simp only [Tr.flat,vM,zN]at hn
  rcases hn with hn|rfl
  ·exact ih hw.2 s hn ht
  ·exact absurd (pk2 hw.1.1 ht) (by decide)
 |bi m a b iha ihb=>
  intro s n hn ht
  simp only [Tr.flat,vM,zN]at hn
  rcases hn with(hn|hn)|rfl
  ·exact iha hw.2.1 s hn ht
  ·exact ihb hw.2.2 _ hn ht
  ·exact absurd (pk2 hw.1.1 ht) (by decide)
def oS(r:List ac)(ns:List bo):ac×Int:=match mA ns with
 |none=>(zV,200)
 |some t=>if tU r ns then ev r t else(zV,2)
theorem FU(e:bG)(r:List ac)(x:ac): ∀cs:List Int,(∀c∈cs,0≤c)→oJ e r cs x=if cs.all (zc r)then iD e (iL r BA)else some (zV,2)
 |[],_=>by
  unfold oJ
  rw [I7]
  simp only [bf]
  cases iD e (iL r BA)<;>rfl
 |c::cs,hc=>by
  unfold oJ
  rw [FU e r x cs fun c hm=>hc c (kN _ hm)]
  have h0:=hc c (kO ..)
  by_cases h:(r.length:Int)≤c
  ·have hb:zc r c=false:=by unfold zc;rw [Bool.and_eq_false_iff];left;simp;omega
   simp [h,hb,zV]
  ·have hlt:c.toNat<r.length:=by omega
   have e1:cN r c=some r[c.toNat]:=by rw [gO c.toNat (by omega),oO hlt]
   have hb:zc r c=mM r[c.toNat]:=by
    unfold zc
    rw [oO hlt]
    have:decide (c<(r.length:Int))=true:=by simp;omega
    rw [this];rfl
   rw [aY (by simpa using h),e1]
   simp only [bf,s8]
   rw [zM,hb]
   cases mM r[c.toNat]<;>simp [zV]
theorem Km(r:List ac){t:Tr}(hw:t.wf)(hr:Tl t)(hc:yd r t)(hs:t.size≤1000):iD ⟨t.flat 0⟩ (iL r BA)=some (ev r t):=by
 unfold iD
 have h:=Mz r t hw hr hc 0 [] [] (by simp;omega)
 rw [rn]at h
 rw [h]
 rcases nh r t hw hr hc with⟨h2,h3⟩|h2|h2
 ·rw [aY h2]
  unfold dD gm
  rw [aL (by simp)]
  simp only [jY]
  rw [show cN [(ev r t).1] 0=some (ev r t).1 from rfl]
  simp only [bf]
  congr 1
  exact Prod.ext rfl h2.symm
 ·rw [h2,aL (by decide)]
 ·rw [h2,aL (by decide)]
theorem wr(e:bG)(r:List ac)(hl:e.Nodes.length≤50000)(he:If e.Nodes)(hr:TT r):sS e r=some (oS r e.Nodes):=by
 unfold sS oS
 rw [uY e (by omega)]
 cases ht:mA e.Nodes with
 |none=>
  have:j5 e.Nodes=false:=by unfold j5;rw [ht];rfl
  rw [this];rfl
 |some t=>
  have hri:j5 e.Nodes=true:=by unfold j5;rw [ht];rfl
  obtain⟨hw,hN,hs⟩:=j8 ht
  rw [hri]
  simp only [ep,bf]
  rw [aL (by decide)]
  obtain⟨cs,h1,h2⟩:=Bw e hri
  rw [h1]
  simp only [bf]
  have hcnt: ∀n∈e.Nodes,n.Tag=2→0≤n.Col:=fun n hn htag=>by
   rw [hN]at hn
   exact(Eh hw 0 hn htag).1
  rw [FU e r _ cs fun c hc=>by obtain⟨n,hn,htag,rfl⟩:=(h2 c).1 hc;exact hcnt n hn htag]
  have hcols:cs.all (zc r)=tU r e.Nodes:=by
   rw [AC,jZ]
   unfold tU
   rw [jZ]
   constructor
   ·intro h n hn
    by_cases htag:n.Tag=2
    ·rw [h n.Col ((h2 _).2 ⟨n,hn,htag,rfl⟩)];simp
    ·simp [htag]
   ·intro h c hc
    obtain⟨n,hn,htag,rfl⟩:=(h2 c).1 hc
    have:=h n hn
    simpa [htag] using this
  rw [hcols]
  cases hb:tU r e.Nodes with
  |false=>rfl
  |true=>
   simp only [ep]
   have e9:e=⟨t.flat 0⟩:=by cases e;simp only at hN;rw [hN]
   rw [hN]at he hb
   rw [e9]
   exact Km r hw (A6 t 0 he) (ww hr t hw 0 hb) hs


variable{ka kb:Int}
theorem KI(ht:tag=4∨tag=12∨tag=13∨tag=14∨tag=15):kn tag ka kb=(2,(ka==2||ka==0)&&(kb==2||kb==0)):=by
 rcases ht with rfl|rfl|rfl|rfl|rfl<;>(unfold kn i8 iq;cases (ka==2||ka==0)<;>cases (kb==2||kb==0)<;>rfl)
theorem RE(ht:tag=5∨tag=22∨tag=23):kn tag ka kb=(1,(ka==1||ka==0)&&(kb==1||kb==0)):=by
 rcases ht with rfl|rfl|rfl<;>(unfold kn i8 iq;cases (ka==1||ka==0)<;>cases (kb==1||kb==0)<;>rfl)
def qR(v:ac)(k:Int):Prop:=v.Kind=k∨v.Kind=0
theorem Ke(h:pk tag=some k)(hk:k≠0){b:ac}(ha:Pl a)(hb:Pl b)(h1:qR a ka)(h2:k=1∧b=a∧kb=0∨k=2∧qR b kb)(hn:(kn tag ka kb).2=true):
  ((Cd tag a b).2=0∧qR (Cd tag a b).1 (kn tag ka kb).1)∨Cd tag a b=(zV,140):=by
 have har: ∀t x y,qR x 2→qR y 2→((w8 t x y).2=0∧qR (w8 t x y).1 2)∨w8 t x y=(zV,140):=by
  intro t x y hx hy
  unfold w8
  rw [aY ⟨hx.symm,hy.symm⟩]
  split
  ·exact .inl ⟨rfl,.inr rfl⟩
  ·split
   ·exact .inl ⟨rfl,.inl rfl⟩
   ·exact .inr rfl
 have hbv: ∀x,(bV x).Kind=1:=fun _=>rfl
 have htv: ∀{v},Tu v→qR v 1:=fun h=>by cases h;exact .inr rfl;exact .inl rfl
 have hh: ∀f,(a.Kind=b.Kind∨a.Kind=0∨b.Kind=0)→(eC f a b).2=0∧(eC f b a).2=0:=by
  intro f hx
  unfold eC
  constructor
  ·split
   ·rfl
   ·rw [aY (by rename_i h9;simp only [not_or]at h9;rcases hx with h|h|h;exact h;exact absurd h h9.1;exact absurd h h9.2)]
  ·split
   ·rfl
   ·rw [aY (by rename_i h9;simp only [not_or]at h9;rcases hx with h|h|h;exact h.symm;exact absurd h h9.2;exact absurd h h9.1)]
 have hkk:k=2→(ka=kb∨ka=0∨kb=0)→(a.Kind=b.Kind∨a.Kind=0∨b.Kind=0):=by
  intro h9 h
  rcases h2 with⟨h5,_⟩|⟨_,h2⟩
  ·omega
  unfold qR at h1 h2
  rcases h with h|h|h<;>rcases h1 with h1|h1<;>rcases h2 with h2|h2<;>simp_all
 have hno: ∀f x y,(eC f x y).2=0→(E3 (eC f x y)).2=0∧qR (E3 (eC f x y)).1 1:=by
  intro f x y h9
  unfold E3
  rw [aY h9]
  exact⟨rfl,htv (DF (rF f x y h9))⟩
 have h3:k=2→qR b kb:=by intro h9;rcases h2 with⟨h5,_⟩|⟨_,h2⟩;omega;exact h2
 have h10: ∀{x:ac} {kx:Int},qR x kx→kx=2∨kx=0→qR x 2:=by
  intro x kx h h';unfold qR at*;omega
 have h11: ∀{x:ac} {kx:Int},qR x kx→kx=1∨kx=0→x.Kind≤1:=by
  intro x kx h h';unfold qR at*;omega
 rcases Rh h hk with rfl|rfl|rfl|rfl|rfl|rfl|rfl|rfl|rfl|rfl|rfl|rfl|rfl|rfl|rfl|rfl
 ·rw [KI (by decide)]at hn ⊢
  have hx:ka=2∨ka=0:=by simp at hn;exact hn.1
  have:=har 13 (iV 0) a (.inl rfl) (h10 h1 hx)
  exact this
 ·rw [RE (by decide)]at hn ⊢
  have hx:ka=1∨ka=0:=by simp at hn;exact hn.1
  have e:Cd 5 a b=(Gq a,0):=by
   show(if a.Kind≤1 then(Gq a,0)else(zV,2))=_
   rw [aY (h11 h1 hx)]
  rw [e];exact .inl ⟨rfl,htv (DF ((iY ha).2 (h11 h1 hx)))⟩
 ·exact .inl ⟨rfl,.inl rfl⟩
 ·exact .inl ⟨rfl,.inl rfl⟩
 all_goals have hk2:k=2:=by simp [pk]at h;omega
 all_goals have hb3:=h3 hk2
 ·rw [KI (by decide)]at hn ⊢
  have hx:(ka=2∨ka=0)∧(kb=2∨kb=0):=by simp at hn;exact hn
  exact har 12 a b (h10 h1 hx.1) (h10 hb3 hx.2)
 ·rw [KI (by decide)]at hn ⊢
  have hx:(ka=2∨ka=0)∧(kb=2∨kb=0):=by simp at hn;exact hn
  exact har 13 a b (h10 h1 hx.1) (h10 hb3 hx.2)
 ·rw [KI (by decide)]at hn ⊢
  have hx:(ka=2∨ka=0)∧(kb=2∨kb=0):=by simp at hn;exact hn
  exact har 14 a b (h10 h1 hx.1) (h10 hb3 hx.2)
 ·rw [KI (by decide)]at hn ⊢
  have hx:(ka=2∨ka=0)∧(kb=2∨kb=0):=by simp at hn;exact hn
  exact har 15 a b (h10 h1 hx.1) (h10 hb3 hx.2)
 ·have hx:ka=kb∨ka=0∨kb=0:=by simp [kn,i8,iq]at hn;omega
  have:=(hh (fun c=>c==0) (hkk hk2 hx)).1
  exact .inl ⟨this,htv (rF _ a b this)⟩
 ·have hx:ka=kb∨ka=0∨kb=0:=by simp [kn,i8,iq]at hn;omega
  exact .inl (hno (fun c=>c==0) a b (hh _ (hkk hk2 hx)).1)
 ·have hx:ka=kb∨ka=0∨kb=0:=by simp [kn,i8,iq]at hn;omega
  have:=(hh (fun c=>decide (c<0)) (hkk hk2 hx)).1
  exact .inl ⟨this,htv (rF _ a b this)⟩
 ·have hx:ka=kb∨ka=0∨kb=0:=by simp [kn,i8,iq]at hn;omega
  exact .inl (hno (fun c=>decide (c<0)) b a (hh _ (hkk hk2 hx)).2)
 ·have hx:ka=kb∨ka=0∨kb=0:=by simp [kn,i8,iq]at hn;omega
  have:=(hh (fun c=>decide (c<0)) (hkk hk2 hx)).2
  exact .inl ⟨this,htv (rF _ b a this)⟩
 ·have hx:ka=kb∨ka=0∨kb=0:=by simp [kn,i8,iq]at hn;omega
  exact .inl (hno (fun c=>decide (c<0)) a b (hh _ (hkk hk2 hx)).1)
 ·rw [RE (by decide)]at hn ⊢
  have hx:(ka=1∨ka=0)∧(kb=1∨kb=0):=by simp at hn;exact hn
  have e:Cd 22 a b=(FJ a b,0):=by
   show(if a.Kind≤1∧b.Kind≤1 then(FJ a b,0)else(zV,2))=_
   rw [aY ⟨h11 h1 hx.1,h11 hb3 hx.2⟩]
  rw [e];exact .inl ⟨rfl,htv (Pf ((iY ha).2 (h11 h1 hx.1)) ((iY hb).2 (h11 hb3 hx.2)))⟩
 ·rw [RE (by decide)]at hn ⊢
  have hx:(ka=1∨ka=0)∧(kb=1∨kb=0):=by simp at hn;exact hn
  have e:Cd 23 a b=(Tm a b,0):=by
   show(if a.Kind≤1∧b.Kind≤1 then(Tm a b,0)else(zV,2))=_
   rw [aY ⟨h11 h1 hx.1,h11 hb3 hx.2⟩]
  rw [e];exact .inl ⟨rfl,htv (Rl ((iY ha).2 (h11 h1 hx.1)) ((iY hb).2 (h11 hb3 hx.2)))⟩
def kindR(kinds:List Int)(r:List ac):Prop:= ∀(j:Nat) (k:Int),kinds[j]? =some k→ ∃v,r[j]? =some v∧Pl v∧qR v k
theorem ZW(hk4: ∀k∈kinds,k4 k)(hr:kindR kinds r)(t:Tr):t.wf→Tl t→yd r t→Df kinds.length t→ ∀{k},kd kinds t=some k→
  ((ev r t).2=0∧qR (ev r t).1 k)∨(ev r t=(zV,140)∧ ∀s,(t.flat s).any Za=true):=by
 induction t with
 |lf n=>
  intro⟨h1,h2,_,_⟩ hg hc hcT k hk
  unfold kd at hk
  unfold ev
  split at hk
  ·rename_i ht;rw [aY ht];cases hk;exact .inl ⟨rfl,.inl rfl⟩
  ·rename_i ht
   have ht2:n.Tag=2:=(Zh h1).resolve_left ht
   have hlt:=hcT ht2
   have h0:=(Nq h2 ht2).1
   rw [aL ht]
   have hgk:kinds[n.Col.toNat]? =some k:=by
    rw [oO (by omega)]at hk ⊢
    simpa using hk
   obtain⟨v,h3,h4,h5⟩:=hr _ _ hgk
   rw [h3];exact .inl ⟨rfl,h5⟩
 |un n a ih=>
  intro⟨⟨h1,_,_,_⟩,ha⟩ hg hc hcT k hk
  rw [Oo]at hk
  cases hx:kd kinds a with
  |none=>rw [hx]at hk;cases hk
  |some x=>
   rw [hx,bf]at hk
   split at hk
   ·rename_i hkn
    cases hk
    rw [OW]
    rcases ih ha hg hc hcT hx with⟨h2,h3⟩|⟨h2,h3⟩
    ·rw [nj h2]
     have hp:Pl (ev r a).1:=by
      rcases nh r a ha hg hc with⟨_,h⟩|h|h
      ·exact h
      ·rw [h]at h2;cases h2
      ·rw [h]at h2;cases h2
     unfold dz
     rcases Ke h1 (by decide) hp hp h3 (.inl ⟨rfl,rfl,rfl⟩) hkn with⟨h4,h5⟩|h4
     ·rw [aY h4];exact .inl ⟨h4,h5⟩
     ·rcases Cc h1 (by decide) hp hp with⟨h6,_⟩|h6|⟨_,h6⟩
      ·rw [h4]at h6;cases h6
      ·rw [h4]at h6;cases h6
      ·rw [h4]
       exact .inr ⟨rfl,fun s=>by simp only [Tr.flat,Gy,zg,List.any_nil,Bool.or_false,pW];right;simp only [Za];have:(gX n (((s+a.size:Nat):Int)-1) (-1)).Tag=n.Tag:=rfl;rw [this];simp;omega⟩
    ·rw [h2,jf (by decide)]
     exact .inr ⟨rfl,fun s=>by simp only [Tr.flat,Gy,pW];exact .inl (h3 s)⟩
   ·cases hk
 |bi n a b iha ihb=>
  intro⟨⟨h1,_,_,_⟩,ha,hb⟩ ⟨hga,hgb⟩ ⟨hca,hcb⟩ ⟨hTa,hTb⟩ k hk
  rw [KQ]at hk
  cases hx:kd kinds a with
  |none=>rw [hx]at hk;cases hk
  |some x=>
   cases hy:kd kinds b with
   |none=>rw [hx,hy]at hk;cases hk
   |some y=>
    rw [hx,hy]at hk
    simp only [bf]at hk
    split at hk
    ·rename_i hkn
     cases hk
     rw [OX]
     rcases iha ha hga hca hTa hx with⟨h2,h3⟩|⟨h2,h3⟩
     ·rw [nj h2]
      have hp:Pl (ev r a).1:=by
       rcases nh r a ha hga hca with⟨_,h⟩|h|h
       ·exact h
       ·rw [h]at h2;cases h2
       ·rw [h]at h2;cases h2
      rcases ihb hb hgb hcb hTb hy with⟨q2,q3⟩|⟨q2,q3⟩
      ·rw [nj q2]
       have hq:Pl (ev r b).1:=by
        rcases nh r b hb hgb hcb with⟨_,h⟩|h|h
        ·exact h
        ·rw [h]at q2;cases q2
        ·rw [h]at q2;cases q2
       unfold dz
       rcases Ke h1 (by decide) hp hq h3 (.inr ⟨rfl,q3⟩) hkn with⟨h4,h5⟩|h4
       ·rw [aY h4];exact .inl ⟨h4,h5⟩
       ·rcases Cc h1 (by decide) hp hq with⟨h6,_⟩|h6|⟨_,h6⟩
        ·rw [h4]at h6;cases h6
        ·rw [h4]at h6;cases h6
        ·rw [h4]
         exact .inr ⟨rfl,fun s=>by simp only [Tr.flat,Gy,zg,List.any_nil,Bool.or_false,pW];right;simp only [Za];have:(gX n (((s+a.size:Nat):Int)-1) (((s+a.size+b.size:Nat):Int)-1)).Tag=n.Tag:=rfl;rw [this];simp;omega⟩
      ·rw [q2,jf (by decide)]
       exact .inr ⟨rfl,fun s=>by simp only [Tr.flat,Gy,pW];exact .inl (.inr (q3 _))⟩
     ·rw [h2,jf (by decide)]
      exact .inr ⟨rfl,fun s=>by simp only [Tr.flat,Gy,pW];exact .inl (.inl (h3 s))⟩
    ·cases hk
theorem RF{e:bG}(h:(fF e kinds).2=0): ∃t,mA e.Nodes=some t∧(∀k∈kinds,k4 k)∧q6 kinds.length e.Nodes=true∧kd kinds t=some (fF e kinds).1:=by
 unfold fF at h ⊢
 split at h
 ·rename_i h1
  rw [aY h1]
  split at h
  ·rename_i h2
   rw [aY h2]
   split at h
   ·rename_i h3
    rw [aY h3]
    unfold j5 at h1
    cases ht:mA e.Nodes with
    |none=>rw [ht]at h1;cases h1
    |some t=>
     rw [ht]at h
     simp only [bf]at h ⊢
     cases hk:kd kinds t with
     |none=>rw [hk]at h;cases h
     |some k=>exact⟨t,rfl,fun k hk=>yI h2 hk,h3,hk⟩
   ·cases h
  ·cases h
 ·cases h
theorem PV(ns:List bo)(hl:ns.length≤200)(hg:If ns)(kinds:List Int)(h:(fF ⟨ns⟩ kinds).2=0)(own:List ac)(hr:kindR kinds own)(hrg:TT own)(hlen:own.length=kinds.length):
  ((oS own ns).2=0∧Pl (oS own ns).1∧qR (oS own ns).1 (fF ⟨ns⟩ kinds).1)∨((oS own ns).2=140∧ns.any Za=true):=by
 obtain⟨t,ht,hk4,hcols,hkd⟩:=RF h
 obtain⟨hw,hN,hs⟩:=j8 ht
 have hN:ns=t.flat 0:=hN
 have hcT:Df kinds.length t:=ye _ t hw 0 (by rw [←hN];exact hcols)
 have hcB:tU own ns=true:=by
  unfold tU
  rw [jZ]
  intro n hn
  by_cases htag:n.Tag=2
  ·have hc:=jZ.1 hcols n hn
   have h0:=(Eh hw 0 (by rw [←hN];exact hn) htag).1
   simp [htag]at hc ⊢
   have hlt:n.Col.toNat<kinds.length:=by omega
   obtain⟨v,hv,hp,_⟩:=hr n.Col.toNat kinds[n.Col.toNat] (oO hlt)
   unfold zc
   rw [hv]
   have e1:decide (n.Col<(own.length:Int))=true:=by simp;omega
   rw [e1];simpa using hp.plain
  ·simp [htag]
 have hcV:yd own t:=ww hrg t hw 0 (by rw [←hN];exact hcB)
 have hgT:=A6 t 0 (by rw [←hN];exact hg)
 have hev:oS own ns=ev own t:=by unfold oS;rw [ht];simp [hcB]
 rw [hev]
 rcases ZW hk4 hr t hw hgT hcV hcT hkd with⟨h2,h3⟩|⟨h2,h3⟩
 ·left
  refine⟨h2,?_,h3⟩
  rcases nh own t hw hgT hcV with⟨_,h⟩|h|h
  ·exact h
  ·rw [h]at h2;cases h2
  ·rw [h]at h2;cases h2
 ·right
  rw [h2]
  exact⟨rfl,by rw [hN];exact h3 0⟩

def sh(s:Nat)(x:Int):Int:=if 0≤x then x+(s:Int)else x
def cb(r:List ac):Tr→Bool
 | .lf n=> !(n.Tag==2)||zc r n.Col
 | .un _ a=>cb r a
 | .bi _ a b=>cb r a&&cb r b

def us(s:Nat)(x:Int):Int:=if 0≤x then x-(s:Int)else x

def fA(v:ac)(l:List ac):ac:=l.foldl FJ v

theorem jS{a b:Bool}(h:a=true↔b=true):a=b:=by cases a<;>cases b<;>simp_all

theorem DG(h:r64 x):(BitVec.ofInt 64 x).msb=decide (x<0):=by
 unfold r64 at h
 rw [BitVec.msb_eq_toInt,BitVec.toInt_ofInt]
 congr 1
 have:x.bmod (2^64)=x:=by
  rw [Int.bmod_def]
  split<;>omega
 rw [this]
theorem Eb(b:BitVec 64):IntKind.i64.wrap (b.toNat:Int)=b.toInt:=by
 rw [vN,BitVec.toInt_eq_toNat_cond]
 have:=b.isLt
 first|done|omega|(split<;>omega)
theorem yk(hx:r64 x)(hy:r64 y):(decide (fc .xor .i64 x y<0))=(decide (x<0) !=decide (y<0))∧r64 (fc .xor .i64 x y):=by
 refine⟨?_,oZ _⟩
 have e:fc .xor .i64 x y=(BitVec.ofInt 64 x^^^BitVec.ofInt 64 y).toInt:=Eb _
 rw [e,←BitVec.msb_eq_toInt,BitVec.msb_xor,DG hx,DG hy]
theorem Je(hx:r64 x)(hy:r64 y):(decide (fc .and .i64 x y<0))=(decide (x<0)&&decide (y<0)):=by
 have e:fc .and .i64 x y=(BitVec.ofInt 64 x&&&BitVec.ofInt 64 y).toInt:=Eb _
 rw [e,←BitVec.msb_eq_toInt,BitVec.msb_and,DG hx,DG hy]
theorem Fz(z:Int):decide (0≤z)= !decide (z<0):=by
 by_cases h:z<0
 ·have: ¬0≤z:=by omega
  simp [h,this]
 ·have:0≤z:=by omega
  simp [h,this]
instance(z:Int):Decidable (r64 z):=by unfold r64;infer_instance
theorem S4(hx:r64 x)(hy:r64 y):Nv 12 x y=(IntKind.i64.wrap (x+y),decide (r64 (x+y))):=by
 have hc:=oZ (x+y)
 show(IntKind.i64.wrap (x+y),_)=_
 congr 1
 show decide ((0:Int)≤_)=_
 obtain⟨h1,h2⟩:=yk hx hc
 obtain⟨h3,h4⟩:=yk hy hc
 rw [Fz,Je h2 h4,h1,h3]
 have hcw:=vN (x+y)
 unfold r64 at hx hy hc ⊢
 generalize IntKind.i64.wrap (x+y)=c at hc hcw ⊢
 by_cases hr: -9223372036854775808≤x+y∧x+y≤9223372036854775807
 ·rw [y5 hr]
  by_cases p1:x<0<;>by_cases p2:y<0<;>by_cases p3:c<0<;>simp only [p1,p2,p3,AH,decide_false]<;>first|rfl|(exfalso;omega)
 ·rw [xc hr]
  by_cases p1:x<0<;>by_cases p2:y<0<;>by_cases p3:c<0<;>simp only [p1,p2,p3,AH,decide_false]<;>first|rfl|(exfalso;omega)
theorem Q4(hx:r64 x)(hy:r64 y):Nv 13 x y=(IntKind.i64.wrap (x-y),decide (r64 (x-y))):=by
 have hc:=oZ (x-y)
 show(IntKind.i64.wrap (x-y),_)=_
 congr 1
 show decide ((0:Int)≤_)=_
 obtain⟨h1,h2⟩:=yk hx hy
 obtain⟨h3,h4⟩:=yk hx hc
 rw [Fz,Je h2 h4,h1,h3]
 have hcw:=vN (x-y)
 unfold r64 at hx hy hc ⊢
 generalize IntKind.i64.wrap (x-y)=c at hc hcw ⊢
 by_cases hr: -9223372036854775808≤x-y∧x-y≤9223372036854775807
 ·rw [y5 hr]
  by_cases p1:x<0<;>by_cases p2:y<0<;>by_cases p3:c<0<;>simp only [p1,p2,p3,AH,decide_false]<;>first|rfl|(exfalso;omega)
 ·rw [xc hr]
  by_cases p1:x<0<;>by_cases p2:y<0<;>by_cases p3:c<0<;>simp only [p1,p2,p3,AH,decide_false]<;>first|rfl|(exfalso;omega)
theorem FI{y:Nat}(h:y<18446744073709551616):fc .and .u64 (y:Int) 4294967295=((y%4294967296:Nat):Int):=by
 have e:fc .and .u64 (y:Int) 4294967295=IntKind.u64.wrap (((BitVec.ofInt 64 (y:Int)&&&BitVec.ofInt 64 4294967295).toNat:Nat):Int):=rfl
 have e1:BitVec.ofInt 64 (y:Int)=BitVec.ofNat 64 y:=BitVec.ofInt_natCast 64 y
 have e2:BitVec.ofInt 64 4294967295=BitVec.ofNat 64 (2^32-1):=by decide
 rw [e,e1,e2,BitVec.toNat_and,BitVec.toNat_ofNat,BitVec.toNat_ofNat,CO (by omega:y<2^64),CO (by omega:2^32-1<2^64),Nat.and_two_pow_sub_one_eq_mod,GM (by omega) (by omega)]
theorem wJ(y:Nat):((y:Int)).fdiv (2^(min (Int.toNat (32:Int)) IntKind.u64.bits))=((y/4294967296:Nat):Int):=by
 have e:(2:Int)^(min (Int.toNat (32:Int)) IntKind.u64.bits)=4294967296:=by decide
 rw [e,Int.fdiv_eq_ediv_of_nonneg _ (by decide)]
 rfl
theorem qz{n:Nat}(h:n<18446744073709551616):IntKind.u64.wrap (n:Int)=(n:Int):=GM (by omega) (by omega)
theorem Ry(x y:Nat)(hx:x<18446744073709551616)(hy:y<18446744073709551616):na (x:Int) (y:Int)=some (((x*y/18446744073709551616:Nat):Int),((x*y%18446744073709551616:Nat):Int)):=by
 unfold na
 have hx0:x%4294967296<4294967296:=uZ _ (by decide)
 have hy0:y%4294967296<4294967296:=uZ _ (by decide)
 have hx1:x/4294967296<4294967296:=by omega
 have hy1:y/4294967296<4294967296:=by omega
 have ex:x=x/4294967296*4294967296+x%4294967296:=by omega
 have ey:y=y/4294967296*4294967296+y%4294967296:=by omega
 rw [FI hx,FI hy,wJ,wJ]
 generalize x/4294967296=x1 at*
 generalize x%4294967296=x0 at*
 generalize y/4294967296=y1 at*
 generalize y%4294967296=y0 at*
 have b00:x0*y0≤4294967295*4294967295:=vL (by omega) (by omega)
 have b10:x1*y0≤4294967295*4294967295:=vL (by omega) (by omega)
 have b01:x0*y1≤4294967295*4294967295:=vL (by omega) (by omega)
 have b11:x1*y1≤4294967295*4294967295:=vL (by omega) (by omega)
 have exy:x*y=x1*y1*18446744073709551616+(x1*y0+x0*y1)*4294967296+x0*y0:=by
  rw [ex,ey]
  simp only [uL,Nat.mul_add]
  have h1:x1*4294967296*(y1*4294967296)=x1*y1*18446744073709551616:=by
   rw [Nat.mul_mul_mul_comm]
  have h2:x1*4294967296*y0=x1*y0*4294967296:=by rw [Nat.mul_right_comm]
  have h3:x0*(y1*4294967296)=x0*y1*4294967296:=by rw [Nat.mul_assoc]
  rw [h1,h2,h3];omega
 rw [←xl x1 y1,←xl x1 y0,←xl x0 y0,←xl x0 y1,←xl x y]
 rw [exy]
 generalize x0*y0=p at*
 generalize x1*y0=q at*
 generalize x0*y1=r at*
 generalize x1*y1=s at*
 rw [qz (n:=s) (by omega),qz (n:=q) (by omega),qz (n:=p) (by omega),qz (n:=r) (by omega),wJ]
 rw [←zh q (p/4294967296),qz (n:=q+p/4294967296) (by omega),wJ,←zh s,qz (n:=s+(q+p/4294967296)/4294967296) (by omega)]
 rw [FI (by omega),←zh,qz (n:=(q+p/4294967296)%4294967296+r) (by omega),wJ,←zh,qz (n:=s+(q+p/4294967296)/4294967296+((q+p/4294967296)%4294967296+r)/4294967296) (by omega)]
 congr 1
 refine Prod.ext ?_ ?_
 ·simp only
  congr 1
  omega
 ·simp only
  rw [ue];omega
theorem Kh(x y:Int):x*y=if(decide (x<0) !=decide (y<0))=true then -(((x.natAbs*y.natAbs:Nat)):Int)else((x.natAbs*y.natAbs:Nat):Int):=by
 have hx:x=if x<0 then -(x.natAbs:Int)else(x.natAbs:Int):=by split<;>omega
 have hy:y=if y<0 then -(y.natAbs:Int)else(y.natAbs:Int):=by split<;>omega
 rw [xl]
 by_cases p1:x<0<;>by_cases p2:y<0
 ·rw [aY p1]at hx;rw [aY p2]at hy
  conv=>lhs;rw [hx,hy]
  simp [p1,p2,Int.neg_mul_neg]
 ·rw [aY p1]at hx;rw [aL p2]at hy
  conv=>lhs;rw [hx,hy]
  simp [p1,p2,Int.neg_mul]
 ·rw [aL p1]at hx;rw [aY p2]at hy
  conv=>lhs;rw [hx,hy]
  simp [p1,p2,Int.mul_neg]
 ·rw [aL p1]at hx;rw [aL p2]at hy
  conv=>lhs;rw [hx,hy]
  simp [p1,p2]
theorem GV(m:Nat)(hm:m<18446744073709551616)(b:Bool): ∃n,m5 (m:Int) b=some (n,decide (r64 (if b then -(m:Int)else(m:Int))))∧(r64 (if b then -(m:Int)else(m:Int))→n=if b then -(m:Int)else(m:Int)):=by
 unfold m5
 cases b with
 |true=>
  simp only [ep]
  refine⟨IntKind.i64.wrap (IntKind.u64.wrap (0-(m:Int))),?_,fun hr=>?_⟩
  ·congr 2
   exact CL.mpr (by unfold r64;omega)
  ·unfold r64 at hr
   rw [ue,vN];omega
 |false=>
  simp only [fL,d7]
  refine⟨IntKind.i64.wrap (m:Int),?_,fun hr=>?_⟩
  ·congr 2
   exact CL.mpr (by unfold r64;omega)
  ·unfold r64 at hr
   rw [vN];omega
theorem Rx(hx:r64 x)(hy:r64 y):(Nv 14 x y).2=decide (r64 (x*y))∧(r64 (x*y)→(Nv 14 x y).1=x*y):=by
 have ha:x.natAbs≤9223372036854775808:=by unfold r64 at hx;omega
 have hb:y.natAbs≤9223372036854775808:=by unfold r64 at hy;omega
 have hprod:=Kh x y
 have e:Nv 14 x y=(mq x y).getD (0,false):=rfl
 rw [e]
 unfold mq
 rw [uk x hx,uk y hy]
 simp only [bf]
 rw [Ry _ _ (by omega) (by omega)]
 simp only [bf]
 generalize (decide (x<0) !=decide (y<0))=b at hprod ⊢
 generalize x.natAbs*y.natAbs=m at hprod ⊢
 obtain⟨n,h1,h2⟩:=GV (m%18446744073709551616) (uZ _ (by decide)) b
 rw [h1]
 simp only [bf,GB]
 rw [hprod]
 by_cases hm:m<18446744073709551616
 ·rw [CO hm]at h2 ⊢
  have hd:m/18446744073709551616=0:=Nat.div_eq_of_lt hm
  rw [hd]
  refine⟨by simp,fun hr=>h2 hr⟩
 ·have hd:m/18446744073709551616≠0:=by omega
  have hnr: ¬r64 (if b=true then -(m:Int)else(m:Int)):=by
   unfold r64
   split<;>omega
  refine⟨?_,fun hr=>absurd hr hnr⟩
  have:((((m/18446744073709551616:Nat):Int))==0)=false:=by simp;omega
  rw [this]
  simp [hnr]
theorem Kf(x y:Int):x.tdiv y=if(decide (x<0) !=decide (y<0))=true then -((x.natAbs/y.natAbs:Nat):Int)else((x.natAbs/y.natAbs:Nat):Int):=by
 have hx:x=if x<0 then -(x.natAbs:Int)else(x.natAbs:Int):=by split<;>omega
 have hy:y=if y<0 then -(y.natAbs:Int)else(y.natAbs:Int):=by split<;>omega
 have ht: ∀a b:Nat,((a:Int)).tdiv (b:Int)=((a/b:Nat):Int):=fun a b=>rfl
 by_cases p1:x<0<;>by_cases p2:y<0
 ·rw [aY p1]at hx;rw [aY p2]at hy
  conv=>lhs;rw [hx,hy]
  rw [Int.neg_tdiv,Int.tdiv_neg,ht]
  simp [p1,p2]
 ·rw [aY p1]at hx;rw [aL p2]at hy
  conv=>lhs;rw [hx,hy]
  rw [Int.neg_tdiv,ht]
  simp [p1,p2]
 ·rw [aL p1]at hx;rw [aY p2]at hy
  conv=>lhs;rw [hx,hy]
  rw [Int.tdiv_neg,ht]
  simp [p1,p2]
 ·rw [aL p1]at hx;rw [aL p2]at hy
  conv=>lhs;rw [hx,hy]
  rw [ht]
  simp [p1,p2]
theorem Sx(hx:r64 x)(hy:r64 y)(h0:y≠0):(Nv 15 x y).2=decide (r64 (x.tdiv y))∧(r64 (x.tdiv y)→(Nv 15 x y).1=x.tdiv y):=by
 have ha:x.natAbs≤9223372036854775808:=by unfold r64 at hx;omega
 have hq:=Kf x y
 have e:Nv 15 x y=(mt x y).getD (0,false):=rfl
 rw [e]
 unfold mt
 rw [aL (by simpa using h0),uk x hx,uk y hy]
 simp only [bf]
 have hn:nz ((y.natAbs:Nat):Int)=some ():=by
  unfold nz
  rw [aL (by omega)]
 rw [hn]
 have ht:((x.natAbs:Int)).tdiv (y.natAbs:Int)=((x.natAbs/y.natAbs:Nat):Int):=rfl
 have hle:x.natAbs/y.natAbs≤x.natAbs:=Nat.div_le_self _ _
 simp only [bf]
 rw [ht,qz (by omega)]
 generalize (decide (x<0) !=decide (y<0))=b at hq ⊢
 obtain⟨n,h1,h2⟩:=GV (x.natAbs/y.natAbs) (by omega) b
 rw [h1]
 simp only [bf,GB]
 rw [hq]
 exact⟨rfl,h2⟩
def YU(tag x y:Int):Option Int:=if tag=12 then some (x+y)else if tag=13 then some (x-y)else if tag=14 then some (x*y)else if y=0 then none else some (x.tdiv y)
def Gg(tag x y:Int):ac×Int:=match YU tag x y with
 |none=>(zV,140)
 |some z=>if r64 z then(iV z,0)else(zV,140)
theorem WK(x y:Int):YU 12 x y=some (x+y):=rfl
theorem WJ(x y:Int):YU 13 x y=some (x-y):=rfl
theorem WI(x y:Int):YU 14 x y=some (x*y):=rfl
theorem OU(x y:Int):YU 15 x y=if y=0 then none else some (x.tdiv y):=rfl
theorem pK{z:Int}(h:YU tag x y=some z):Gg tag x y=if r64 z then(iV z,0)else(zV,140):=by
 unfold Gg;rw [h]
theorem G1(h:YU tag x y=none):Gg tag x y=(zV,140):=by
 unfold Gg;rw [h]
theorem Ig{a:Int×Bool}{z:Int}(h1:a.2=decide (r64 z))(h2:r64 z→a.1=z):(if a.2=true then(iV a.1,(0:Int))else(zV,140))=if r64 z then(iV z,0)else(zV,140):=by
 by_cases h:r64 z
 ·rw [h1,y5 h,aY rfl,aY h,h2 h]
 ·rw [h1,xc h,aL (by decide),aL h]
theorem We(ht:tag=12∨tag=13∨tag=14∨tag=15)(hx:r64 x)(hy:r64 y):(if(Nv tag x y).2=true then(iV (Nv tag x y).1,(0:Int))else(zV,140))=Gg tag x y:=by
 have hw: ∀z,r64 z→IntKind.i64.wrap z=z:=fun z h=>by unfold r64 at h;exact cq h.1 h.2
 rcases ht with rfl|rfl|rfl|rfl
 ·rw [pK (WK x y)]
  exact Ig (by rw [S4 hx hy]) (fun h=>by rw [S4 hx hy];exact hw _ h)
 ·rw [pK (WJ x y)]
  exact Ig (by rw [Q4 hx hy]) (fun h=>by rw [Q4 hx hy];exact hw _ h)
 ·rw [pK (WI x y)]
  exact Ig (Rx hx hy).1 (Rx hx hy).2
 ·by_cases h0:y=0
  ·subst h0
   rw [G1 (by rw [OU,aY rfl])]
   rfl
  ·rw [pK (z:=x.tdiv y) (by rw [OU,aL h0])]
   exact Ig (Sx hx hy h0).1 (Sx hx hy h0).2
end Go.Proofs.YtfhhakidodmdfaaGreatDoor

