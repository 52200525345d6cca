/- di of this claim: K1, K2, K3, K4, L1, L2, L3, M1, M2, M3, M4, M5, M6, M7, M8, M9, M10. -/
import Derived.Test.YtfhhakidodmdfaaGreatDoorJcF
import Derived.KernelRfl
import Derived.Test.YtfhhakidodmdfaaGreatDoorJcV4
set_option linter.all false
namespace Go.Proofs.YtfhhakidodmdfaaGreatDoor
open Go

abbrev cU:=List ac
variable{n:bC}
theorem ux{n:Int}(h: -9223372036854775808≤n)(h2:n≤9223372036854775807):IntKind.i64.wrap n=n:=by
 rw [v6];omega
variable{α:Type}{xs:List α}
theorem cJ{ys:List α}(h:xs.length+ys.length≤68719476736):app xs ys=some (xs++ys):=bk h
theorem R0{i:Nat}:de xs (i:Int)=(xs.drop i).head? :=by
 rw [cC,List.head?_drop]
def fG(v:ac):Bool:=(dw v).getD false
variable{v:ac}
theorem fI(v:ac):dw v=some (fG v):=by
 unfold fG dw
 repeat' split
 all_goals rfl
variable{k:Nat}
theorem nU(v:ac):ln v=some (if fG v then 0 else 120):=by
 obtain⟨k,n,u,s⟩:=v
 unfold fG dw ln xE
 simp only [kQ,qd,qc,qb]
 by_cases h0:k=0
 ·subst h0;simp
  repeat' split
  all_goals simp_all
 by_cases h1:k=1
 ·subst h1
  by_cases n0:n=0
  ·subst n0;simp
   repeat' split
   all_goals simp_all
  by_cases n1:n=1
  ·subst n1;simp
   repeat' split
   all_goals simp_all
  simp [n0,n1]
 by_cases h2:k=2
 ·subst h2;simp
  repeat' split
  all_goals simp_all
 by_cases h3:k=3
 ·subst h3;simp
  repeat' split
  all_goals simp_all
 by_cases h4:k=4
 ·subst h4;simp
  repeat' split
  all_goals simp_all
 simp [h0,h1,h2,h3,h4]
def hU(r:cU):Bool:=decide (r.length≤16)&&r.all fG
theorem EH(v:ac):rU v=some (!fG v):=by
 unfold rU
 rw [nU]
 cases fG v<;>rfl
variable{f:α→α→Int}{l:List cU}{r:List ac}
theorem CJ{f:ac→Option Bool}{g:ac→Bool}(hf: ∀v,f v=some (g v))(l:cU):gD l f=some (l.any g):=by
 have key: ∀(l:cU) (i:Nat),(cS f l i).bind (fun r=>some (decide ((0:Int)≤r)))=some (l.any g):=by
  intro l
  induction l with
  |nil=>intro i;simp [cS]
  |cons e t ih=>intro i;simp only [cS,hf,bu];cases h:g e<;>simp [ih,h]
 exact key l 0
theorem sT(r:cU):qW r=some (hU r):=by
 unfold qW hU
 rw [CJ (g:=fun v=> !fG v) EH]
 by_cases h:r.length≤16
 ·rw [bk (by simp;omega)]
  simp [h,List.all_eq_not_any_not]
 ·rw [aX (by simp;omega)]
  simp [h]
theorem EK(r:cU):uD r=some (hU r):=by
 have key: ∀l:cU,nZ l=some (l.all fG):=by
  intro l
  induction l with
  |nil=>rfl
  |cons e t ih=>simp only [nZ,fI,bu];cases h:fG e<;>simp [ih,h]
 unfold uD hU
 rw [key]
 by_cases h:r.length≤16
 ·rw [aX (by simp;omega)]
  simp [h]
 ·rw [bk (by simp;omega)]
  simp [h]
theorem H6(r:cU):yG r=some (if hU r then 0 else 150):=by
 unfold yG
 rw [sT]
 cases hU r<;>rfl
theorem MF{r:cU}(h:hU r=true):r.length≤16:=by
 unfold hU at h
 simp at h
 exact h.1

variable{a:ac}
theorem lR: ∀s:xc,Op.bytesLess s s=false
 |[]=>rfl
 |a::s=>by
  unfold Op.bytesLess
  simp [lR s]
def Yk:List Int→Int
 |[]=>0
 |e::t=>if e !=0 then e else Yk t
theorem Cx(l:List Int):m6 l=some (Yk l):=by
 unfold m6
 induction l with
 |nil=>rfl
 |cons e t ih=>simp only [gx,Yk];split<;>simp [*]
def val(x y:ac):Int:=(nY x y).getD 0
variable{x y:Int}
theorem EJ(x y:ac):nY x y=some (val x y):=by
 unfold val nY pu
 repeat' split
 all_goals rfl
theorem Pg(p y:Int):ja p y=some (if p<y then -1 else if y<p then 1 else 0):=by
 unfold ja nJ
 simp
 repeat' split
 all_goals rfl
theorem Hl(p y:Int):gU p y=some (if p<y then -1 else if y<p then 1 else 0):=by
 unfold gU lh
 simp
 repeat' split
 all_goals rfl
theorem Hk(p y:Int):m7 p y=some (if p<y then -1 else if y<p then 1 else 0):=by
 unfold m7 oJ
 simp
 repeat' split
 all_goals rfl
theorem Pf(p y:xc):m8 p y=some (if Op.bytesLess p y then -1 else if p=y then 0 else 1):=by
 unfold m8 oK
 by_cases h:p=y
 ·subst h;simp [lR]
 ·cases h2:Op.bytesLess p y<;>simp [h]
theorem zB(x y:ac):pq x y=some (val x y):=by
 unfold pq
 rw [Pg,Hl,Hk,Pf]
 simp only [bu]
 rw [Cx]
 unfold val nY pu
 simp only [Yk,bu]
 by_cases h1:x.Kind=y.Kind
 ·rw [h1]
  by_cases h2:x.N=y.N
  ·rw [h2]
   by_cases h3:x.U=y.U
   ·rw [h3]
    by_cases h4:x.S=y.S
    ·rw [h4];simp [lR]
    ·cases h5:Op.bytesLess x.S y.S<;>simp [h4]
   ·rcases Int.lt_or_gt_of_ne h3 with h|h
    ·simp [h3,h]
    ·have: ¬x.U<y.U:=by omega
     simp [h3,h,this]
  ·rcases Int.lt_or_gt_of_ne h2 with h|h
   ·simp [h2,h]
   ·have: ¬x.N<y.N:=by omega
    simp [h2,h,this]
 ·rcases Int.lt_or_gt_of_ne h1 with h|h
  ·simp [h1,h]
  ·have: ¬x.Kind<y.Kind:=by omega
   simp [h1,h,this]
def fe:cU→cU→Int
 |[],[]=>0
 |[],_::_=> -1
 |_::_,[]=>1
 |x::a,y::b=>if val x y !=0 then val x y else fe a b
theorem FR(a b:cU):cI a b pq=some (fe a b):=by
 unfold cI
 have key: ∀(l:cU) (i:Nat),a.drop i=l→i≤a.length→bR a b pq l i=some (fe l (b.drop i)):=by
  intro l
  induction l with
  |nil=>
   intro i h1 h2
   have h3:a.length≤i:=HM.1 h1
   simp only [bR]
   by_cases hlt:a.length<b.length
   ·rw [bk (by simp;omega)]
    rw [xu (by omega:i<b.length)];rfl
   ·rw [aX (by simp;omega),Dp (by omega)];rfl
  |cons x t ih=>
   intro i h1 h2
   have hi:i<a.length:=by
    rcases nL i a.length with h|h
    ·exact h
    ·rw [Dp h]at h1;cases h1
   simp only [bR]
   have ht:=ih (i+1) (by rw [←oO,h1];rfl) (by omega)
   rcases nL i b.length with h|h
   ·rw [aX (by simp;omega),cC,ph h,xu h,ht]
    simp only [bu,zB,fe]
    split<;>rfl
   ·rw [bk (by simp;omega),Dp h];rfl
 exact key a 0 rfl (mA _)
theorem wp(a b:cU):pL a b=some (fe a b):=by
 unfold pL
 rw [FR a b];rfl
theorem EI(a b:cU):pN a b=some (if hU a&&hU b then fe a b else 0):=by
 unfold pN
 rw [sT,sT,wp]
 cases ha:hU a<;>cases hb:hU b<;>simp
theorem wr(a b:cU):pM a b=some (decide (a=b)):=by
 unfold pM jm
 by_cases hl:a.length=b.length
 ·rw [aX (by simp [hl])]
  have key: ∀(l:cU) (i:Nat),a.drop i=l→ep b l i=some (decide (l=b.drop i)):=by
   intro l
   induction l with
   |nil=>
    intro i h1
    have h3:a.length≤i:=HM.1 h1
    rw [Dp (by omega)];rfl
   |cons x t ih=>
    intro i h1
    have hi:i<a.length:=by
     rcases nL i a.length with h|h
     ·exact h
     ·rw [Dp h]at h1;cases h1
    have ht:=ih (i+1) (by rw [←oO,h1];rfl)
    simp only [ep]
    rw [cC,ph (by omega),xu (by omega:i<b.length)]
    simp only [bu,ht]
    by_cases hx:x=b[i]
    ·rw [aX (by simp [hx])]
     exact congrArg some (CO.2 ⟨fun h=>by rw [hx,h],fun h=>(Gu h).2⟩)
    ·rw [bk (by simp [hx])]
     exact congrArg some (zc (fun h=>hx (Gu h).1)).symm
  have:=key a 0 rfl
  rw [this];simp
 ·rw [bk (by simp;omega)]
  have:a≠b:=fun e=>hl (by rw [e])
  simp [this]
theorem CK(r:cU)(h:r.length≤68719476736):cN r=some r:=by
 unfold cN
 rw [cJ (by simpa using h)];rfl
theorem zD(l:List cU)(h: ∀r∈l,r.length≤68719476736)(hl:l.length≤68719476736):tH l=some l:=by
 have key: ∀(m out:List cU),(∀r∈m,r.length≤68719476736)→out.length+m.length≤68719476736→nC m out=some (out++m):=by
  intro m
  induction m with
  |nil=>intro out _ _;simp [nC]
  |cons e t ih=>
   intro out h1 h2
   simp only [jf]at h2
   simp only [nC]
   rw [CK e (h1 e (lb ..))]
   simp only [bu]
   rw [cJ (by simp;omega)]
   simp only [bu]
   rw [ih _ (fun r hr=>h1 r (lc _ hr)) (by simp;omega)]
   simp
 have:=key l [] h (by simpa using hl)
 simpa [tH] using this

structure Dm{α:Type}(f:α→α→Int):Prop where
 rng: ∀x y,f x y= -1∨f x y=0∨f x y=1
 anti: ∀x y,f y x= -f x y
 eq: ∀x y,f x y=0↔x=y
 trans: ∀x y z,f x y≤0→f y z≤0→f x z≤0
theorem Dm.lt(h:Dm f){x y z:α}(h1:f x y≤0)(h2:f y z≤0)(h3:f x y<0∨f y z<0):f x z<0:=by
 have h4:=h.trans x y z h1 h2
 rcases h.rng x z with h5|h5|h5
 ·omega
 ·have e:=(h.eq x z).1 h5
  subst e
  have:=h.anti x y
  omega
 ·omega
def Jo(c d:Int):Int:=if c !=0 then c else d
theorem Dm.lex{β:Type}{g:β→β→Int}(hf:Dm f)(hg:Dm g):Dm (fun(p q:α×β)=>Jo (f p.1 q.1) (g p.2 q.2)) where
 rng:=fun x y=>by
  unfold Jo
  split
  ·exact hf.rng _ _
  ·exact hg.rng _ _
 anti:=fun x y=>by
  have h1:=hf.anti x.1 y.1
  have h2:=hg.anti x.2 y.2
  unfold Jo
  by_cases h:f x.1 y.1=0
  ·have:f y.1 x.1=0:=by omega
   simp [h,this,h2]
  ·have:f y.1 x.1≠0:=by omega
   simp [h,h1]
 eq:=fun x y=>by
  unfold Jo
  by_cases h:f x.1 y.1=0
  ·have e:=(hf.eq _ _).1 h
   simp only [h,zr,gL,eT]
   rw [hg.eq]
   exact⟨fun h2=>Prod.ext e h2,fun h2=>by rw [h2]⟩
  ·simp only [rM,pG,h,CU,fM,false_iff]
   intro e
   exact h ((hf.eq _ _).2 (by rw [e]))
 trans:=fun x y z=>by
  unfold Jo
  by_cases h1:f x.1 y.1=0
  ·have e:=(hf.eq _ _).1 h1
   simp only [h1,zr,gL,eT]
   rw [←e]
   by_cases h2:f x.1 z.1=0
   ·simp only [h2,zr,gL,eT]
    exact hg.trans _ _ _
   ·simp only [rM,pG,h2,CU,fM]
    exact fun _ h=>h
  ·simp only [rM,pG,h1,CU,fM]
   by_cases h2:f y.1 z.1=0
   ·have e:=(hf.eq _ _).1 h2
    have h5:f x.1 z.1≠0:=by rw [←e];exact h1
    simp only [h5,CU,fM]
    intro h _
    rw [←e];exact h
   ·simp only [h2,CU,fM]
    intro h3 h4
    have:=hf.lt h3 h4 (by omega)
    simp only [show f x.1 z.1≠0 from by omega,CU,fM]
    omega
def Lp(p y:Int):Int:=if p<y then -1 else if y<p then 1 else 0
theorem nt:Dm Lp where
 rng:=fun x y=>by
  unfold Lp
  repeat' split
  all_goals omega
 anti:=fun x y=>by unfold Lp;repeat' split;all_goals omega
 eq:=fun x y=>by
  unfold Lp
  constructor
  ·intro h;repeat' split at h
   all_goals omega
  ·intro h;subst h;simp
 trans:=fun x y z=>by
  unfold Lp
  repeat' split
  all_goals omega
theorem zO: ∀a b:xc,Op.bytesLess a b=false→Op.bytesLess b a=false→a=b
 |[],[],_,_=>rfl
 |[],_::_,h,_=>by simp [Op.bytesLess]at h
 |_::_,[],_,h=>by simp [Op.bytesLess]at h
 |x::a,y::b,h,k=>by
  simp only [Op.bytesLess,Bool.or_eq_false_iff,FZ,Bool.and_eq_false_imp,tt]at h k
  have e:x=y:=by
   have h1:=h.1
   have h2:=k.1
   exact UInt8.le_antisymm (UInt8.not_lt.1 h2) (UInt8.not_lt.1 h1)
  subst e
  rw [zO a b (h.2 rfl) (k.2 rfl)]
theorem sH: ∀a b c:xc,Op.bytesLess a b=true→Op.bytesLess b c=true→Op.bytesLess a c=true
 |_,[],_,h,_=>by cases ‹List UInt8› <;>simp [Op.bytesLess]at h
 |_,_::_,[],_,h=>by simp [Op.bytesLess]at h
 |[],_::_,_::_,_,_=>rfl
 |x::a,y::b,z::c,h,k=>by
  simp only [Op.bytesLess,qO,lX,mz,tt]at h k ⊢
  rcases h with h|⟨h1,h2⟩
  ·rcases k with k|⟨k1,_⟩
   ·exact .inl (UInt8.lt_trans h k)
   ·subst k1;exact .inl h
  ·subst h1
   rcases k with k|⟨k1,k2⟩
   ·exact .inl k
   ·exact .inr ⟨k1,sH a b c h2 k2⟩
def QE(p y:xc):Int:=if Op.bytesLess p y then -1 else if p=y then 0 else 1
theorem Fv{a b:xc}(h:Op.bytesLess a b=true):Op.bytesLess b a=false:=by
 cases k:Op.bytesLess b a with
 |false=>rfl
 |true=>have:=sH a b a h k;rw [lR]at this;cases this
theorem BJ:Dm QE where
 rng:=fun x y=>by
  unfold QE
  split
  ·exact .inl rfl
  split
  ·exact .inr (.inl rfl)
  ·exact .inr (.inr rfl)
 anti:=fun x y=>by
  unfold QE
  cases h:Op.bytesLess x y with
  |true=>
   have h2:=Fv h
   have:y≠x:=fun e=>by rw [e,lR]at h;cases h
   simp [h2,this]
  |false=>
   cases k:Op.bytesLess y x with
   |true=>
    have:x≠y:=fun e=>by rw [e,lR]at k;cases k
    simp [this]
   |false=>have:=zO x y h k;simp [this]
 eq:=fun x y=>by
  unfold QE
  constructor
  ·intro h;repeat' split at h
   all_goals simp_all
  ·intro h;subst h;simp [lR]
 trans:=fun x y z=>by
  unfold QE
  intro h1 h2
  cases hxy:Op.bytesLess x y with
  |true=>
   cases hyz:Op.bytesLess y z with
   |true=>simp [sH x y z hxy hyz]
   |false=>
    rw [hyz]at h2
    by_cases e:y=z
    ·subst e;simp [hxy]
    ·simp [e]at h2
  |false=>
   rw [hxy]at h1
   by_cases e:x=y
   ·subst e;exact h2
   ·simp [e]at h1
def key(v:ac):Int×Int×Int×xc:=(v.Kind,v.N,v.U,v.S)
theorem ZW(a b c d:Int):Yk [a,b,c,d]=Jo a (Jo b (Jo c d)):=by
 simp only [Yk,Jo]
 by_cases h:d=0
 ·simp [h]
 ·simp [h]
theorem tE(x y:ac):val x y=Jo (Lp x.Kind y.Kind) (Jo (Lp x.N y.N) (Jo (Lp x.U y.U) (QE x.S y.S))):=by
 have h:=zB x y
 unfold pq at h
 rw [Pg,Hl,Hk,Pf]at h
 simp only [bu]at h
 rw [Cx]at h
 simp only [bu,AO]at h
 rw [←h,ZW]
 rfl
theorem sO:Dm val where
 rng:=fun x y=>by rw [tE];exact(nt.lex (nt.lex (nt.lex BJ))).rng (key x) (key y)
 anti:=fun x y=>by rw [tE,tE];exact(nt.lex (nt.lex (nt.lex BJ))).anti (key x) (key y)
 eq:=fun x y=>by
  rw [tE]
  refine((nt.lex (nt.lex (nt.lex BJ))).eq (key x) (key y)).trans ⟨fun h=>?_,fun h=>by rw [h]⟩
  cases x;cases y
  simp only [key,Prod.mk.injEq]at h
  simp [h]
 trans:=fun x y z=>by rw [tE,tE,tE];exact(nt.lex (nt.lex (nt.lex BJ))).trans (key x) (key y) (key z)
theorem jt:Dm fe where
 rng:=by
  intro x
  induction x with
  |nil=>intro y;cases y<;>simp [fe]
  |cons a x ih=>
   intro y
   cases y with
   |nil=>simp [fe]
   |cons b y=>
    simp only [fe]
    split
    ·exact sO.rng a b
    ·exact ih y
 anti:=by
  intro x
  induction x with
  |nil=>intro y;cases y<;>simp [fe]
  |cons a x ih=>
   intro y
   cases y with
   |nil=>simp [fe]
   |cons b y=>
    simp only [fe]
    have h:=sO.anti a b
    by_cases h1:val a b=0
    ·have h2:val b a=0:=by omega
     simp [h1,h2,ih y]
    ·have h2:val b a≠0:=by omega
     simp [h1,h]
 eq:=by
  intro x
  induction x with
  |nil=>intro y;cases y<;>simp [fe]
  |cons a x ih=>
   intro y
   cases y with
   |nil=>simp [fe]
   |cons b y=>
    simp only [fe]
    by_cases h1:val a b=0
    ·have e:=(sO.eq a b).1 h1
     subst e
     simp [h1,ih y]
    ·have e:a≠b:=fun e=>h1 ((sO.eq a b).2 e)
     simp [h1,e]
 trans:=by
  intro x
  induction x with
  |nil=>intro y z;cases y<;>cases z<;>simp [fe]
  |cons a x ih=>
   intro y z
   cases y with
   |nil=>simp [fe]
   |cons b y=>
    cases z with
    |nil=>simp [fe]
    |cons c z=>
     simp only [fe]
     by_cases h1:val a b=0
     ·have e:=(sO.eq a b).1 h1
      subst e
      by_cases h2:val a c=0
      ·simp [h1,h2];exact ih y z
      ·simp [h1,h2]
     ·by_cases h2:val b c=0
      ·have e:=(sO.eq b c).1 h2
       subst e
       simp only [h1,h2,rM,pG,CU,fM]
       simp only [Jr,eT]
       exact fun h _=>h
      ·simp only [h1,h2,rM,pG,CU,fM]
       intro h3 h4
       have:=sO.lt h3 h4 (by omega)
       rw [bk (by omega)]
       omega

section
def TG(f:α→α→Int)(x y:α):Bool:=decide (f x y<0)
theorem Dm.self(h:Dm f)(x:α):f x x=0:=(h.eq x x).2 rfl
def s5(f:α→α→Int)(l:List α):Prop:=l.Pairwise (fun a b=>f a b≤0)
theorem zz(h:Dm f){a b:List α}(ha:s5 f a)(hb:s5 f b)(hp:a.Perm b):a=b:=
 List.Perm.eq_of_pairwise (le:=fun x y=>f x y≤0) (fun x y _ _ h1 h2=>(h.eq x y).1 (by have:=h.anti x y;omega)) ha hb hp
theorem yp(h:Dm f){c:α×α→Option Int}(hc: ∀x y,c (x,y)=some (f x y)){l:List α}(hl:l.length≤1099511627776):AB c l:=by
 have hlt: ∀x y,va c x y=TG f x y:=fun x y=>by unfold va TG;rw [hc]
 refine⟨hl,fun x _ y _=>by rw [hc];rfl,fun x _=>by rw [hlt];unfold TG;rw [h.self];rfl,fun x _ y _ z _ h1 h2=>?_,fun x _ y _ h1 h2=>?_⟩
 ·rw [hlt]at*
  unfold TG at*
  have h1' :=Jv h1
  have h2' :=Jv h2
  exact zb (h.lt (by omega) (by omega) (.inl h1'))
 ·rw [hlt]at*
  unfold TG at*
  have h1' :=of_decide_eq_false h1
  have h2' :=of_decide_eq_false h2
  have:=h.anti x y
  exact(h.eq x y).1 (by omega)
def u0(f:α→α→Int)(l:List α):List α:=zI (TG f) l
theorem nV(f:α→α→Int)(l:List α):(u0 f l).Perm l:=tW _ l
theorem Ac(h:Dm f)(l:List α)(hl:l.length≤1099511627776):s5 f (u0 f l):=by
 have hg:=yp h (c:=fun p=>some (f p.1 p.2)) (fun _ _=>rfl) hl
 have:=wz hg l (fun y hy=>hy)
 have e:va (fun p:α×α=>some (f p.1 p.2))=TG f:=by funext x y;rfl
 rw [e]at this
 refine this.imp fun{a b} hab=>?_
 unfold TG at hab
 have h1:=of_decide_eq_false hab
 have:=h.anti b a
 omega
theorem PS [DecidableEq α](h:Dm f){c:α×α→Option Int}(hc: ∀x y,c (x,y)=some (f x y)){l:List α}(hl:l.length≤1099511627776):zA c l=some (u0 f l):=by
 rw [Er (yp h hc hl)]
 have e:va c=TG f:=by funext x y;unfold va TG;rw [hc]
 rw [e];rfl
def put(f:α→α→Int)(x:α):List α→List α
 |[]=>[x]
 |y::l=>if f x y<0 then x::y::l else y::put f x l
theorem yz(f:α→α→Int)(l:List α):(u0 f l).length=l.length:=(nV f l).length_eq
end
def ud{α:Type} [DecidableEq α]:α→List α→List α
 |_,[]=>[]
 |p,x::t=>if x=p then ud x t else x::ud x t
theorem BH [DecidableEq α](p:α):ud p []=[]:=by unfold ud;rfl
theorem yW [DecidableEq α]{p x:α}(h:x=p)(t:List α):ud p (x::t)=ud x t:=by
 conv=>lhs;unfold ud
 rw [bk h]
theorem D1 [DecidableEq α]{p x:α}(h: ¬x=p)(t:List α):ud p (x::t)=x::ud x t:=by
 conv=>lhs;unfold ud
 rw [aX h]
def uS{α:Type} [DecidableEq α]:List α→List α
 |[]=>[]
 |x::t=>x::ud x t
theorem Ll{α:Type} [DecidableEq α]: ∀(p:α) (l:List α),(ud p l).length≤l.length
 |_,[]=>dY _
 |p,x::t=>by
  unfold ud
  have:=Ll x t
  split<;>simp<;>omega
theorem QC [DecidableEq α](l:List α):(uS l).length≤l.length:=by
 cases l with
 |nil=>exact dY _
 |cons x t=>have:=Ll x t;simp [uS];omega
theorem Fq{α:Type} [DecidableEq α]: ∀(p:α) (l:List α) (z:α),z∈ud p l→z∈l
 |p,x::t,z,h=>by
  unfold ud at h
  split at h
  ·exact lc _ (Fq x t z h)
  ·rcases gk.1 h with rfl|h
   ·exact lb ..
   ·exact lc _ (Fq x t z h)
theorem E0{α:Type} [DecidableEq α]: ∀(p:α) (l:List α) (z:α),z∈l→z=p∨z∈ud p l
 |p,x::t,z,h=>by
  unfold ud
  by_cases hx:x=p
  ·rw [bk hx]
   rcases gk.1 h with rfl|h
   ·exact .inl hx
   ·rcases E0 x t z h with h|h
    ·exact .inl (h.trans hx)
    ·exact .inr h
  ·rw [aX hx]
   rcases gk.1 h with rfl|h
   ·exact .inr (lb ..)
   ·rcases E0 x t z h with h|h
    ·exact .inr (by rw [h];exact lb ..)
    ·exact .inr (lc _ h)
theorem yN [DecidableEq α](l:List α)(z:α):z∈uS l↔z∈l:=by
 cases l with
 |nil=>exact vi
 |cons x t=>
  constructor
  ·intro h
   rcases gk.1 h with rfl|h
   ·exact lb ..
   ·exact lc _ (Fq x t z h)
  ·intro h
   rcases gk.1 h with rfl|h
   ·exact lb ..
   ·rcases E0 x t z h with rfl|h
    ·exact lb ..
    ·exact lc _ h
theorem yj{α:Type} [DecidableEq α]{f:α→α→Int}(hf:Dm f): ∀(p:α) (l:List α),s5 f (p::l)→(p::ud p l).Pairwise (fun a b=>f a b<0)
 |p,[],_=>List.pairwise_singleton _ _
 |p,x::t,h=>by
  have h1:=BY.1 h
  unfold ud
  by_cases hx:x=p
  ·rw [bk hx]
   subst hx
   exact yj hf x t h1.2
  ·rw [aX hx]
   have h2:=yj hf x t h1.2
   have hlt:f p x<0:=by
    have:=h1.1 x (lb ..)
    rcases Int.lt_or_eq_of_le this with h|h
    ·exact h
    ·exact absurd ((hf.eq p x).1 h).symm hx
   refine BY.2 ⟨fun z hz=>?_,h2⟩
   rcases gk.1 hz with rfl|hz
   ·exact hlt
   ·exact hf.lt (by omega) (by have:=(BY.1 h2).1 z hz;omega) (.inl hlt)
theorem I9 [DecidableEq α](hf:Dm f){l:List α}(h:s5 f l):(uS l).Pairwise (fun a b=>f a b<0):=by
 cases l with
 |nil=>exact List.Pairwise.nil
 |cons x t=>exact yj hf x t h

abbrev acK:=jt
def WW(n:Nat):Int:=if 8000<n then 3 else 0
def Um:List (List cU)→Nat→Nat
 |[],n=>n
 |l::t,n=>Um t (max n l.length)
def oL(l:List cU):Bool:=l.all hU
def ZE(ls:List (List cU)):Int:=if ls.all oL then WW (Um ls 0)else 150
theorem wq(ls:List (List cU)):vw ls=some (ZE ls):=by
 have key2: ∀(l:List cU) (nx:Int→Option Int) (e:List cU) (n:Int),qi nx e n l=if oL l then nx (max n (e.length:Int))else some 150:=by
  intro l
  induction l with
  |nil=>intro nx e n;rfl
  |cons r t ih=>
   intro nx e n
   have ih' :=ih nx e n
   unfold qi
   rw [sT]
   simp only [bu]
   rw [ih']
   unfold oL
   cases h:hU r<;>simp [h]
 have key: ∀(ls:List (List cU)) (n:Nat),lu ls (n:Int)=some (if ls.all oL then WW (Um ls n)else 150):=by
  intro ls
  induction ls with
  |nil=>
   intro n
   show lu [] (n:Int)=some (WW n)
   unfold lu WW
   by_cases h:8000<n
   ·rw [bk (by simp;omega),bk h]
   ·rw [aX (by simp;omega),aX h]
  |cons l t ih=>
   intro n
   unfold lu
   rw [key2,show max (n:Int) (l.length:Int)=((max n l.length:Nat):Int)from by omega,ih]
   show _=some (if(oL l&&t.all oL)=true then WW (Um t (max n l.length))else 150)
   cases h:oL l<;>simp
 exact key ls 0
theorem RQ{n:Nat}(h:n≤8000):WW n=0:=by unfold WW;rw [aX (by omega)]
theorem HT(l:List cU)(h:l.length≤8000):ZE [l]=if oL l then 0 else 150:=by
 show(if(oL l&&true)=true then WW (max 0 l.length)else 150)=_
 rw [RQ (by omega),zq]
theorem EL(l:List cU)(h:l.length≤8000):uE l=some (if oL l then 0 else 150):=by
 have key: ∀m:List cU,mg l m=some (if oL m then 0 else 150):=by
  intro m
  induction m with
  |nil=>unfold mg;rw [aX (by simp;omega)];rfl
  |cons r t ih=>
   unfold mg
   rw [EK]
   simp only [bu]
   rw [ih]
   unfold oL
   cases h:hU r<;>simp [h]
 exact key l
structure Hs(l:List cU):Prop where
 len:l.length≤8000
 row: ∀r∈l,r.length≤1000
abbrev Ad(l:List cU):List cU:=u0 fe l
theorem zC(h:Hs l):tG l=some (Ad l):=by
 unfold tG
 rw [zD l (fun r hr=>by have:=h.row r hr;omega) (by have:=h.len;omega)]
 simp only [bu]
 rw [PS acK (fun x y=>wp x y) (by have:=h.len;omega)]
 rfl
theorem F9(h:Hs l):wt l=some (if oL l then(Ad l,0)else([],150)):=by
 unfold wt
 rw [wq,HT l h.len,zC h]
 cases oL l<;>rfl
theorem cL{n:Int}(h: -9223372036854775808≤n)(h2:n≤9223372036854775807):IntKind.i64.wrap n=n:=by rw [v6];omega
theorem lZ{l m:Nat}(h:l≤m)(h2:m≤xs.length):dP xs (l:Int) (m:Int)=some ((xs.take m).drop l):=by
 unfold dP
 rw [bk (by omega)]
 simp
theorem Ns(p:List cU)(hp:p.length≤8000)(i:Nat)(y:List cU)(hy:i+y.length=p.length): ∀(k i1:Nat) (x:List cU) (x1:Nat),i1+k=y.length→0<i1→x.length=p.length→x1+1≤i+i1→x.drop (i+i1-1)=p.drop (i+i1-1)→
  cw pM i y k i1 x (x1:Int)=some (x.take x1++ud ((p[i+i1-1]?).getD []) (p.drop (i+i1))):=by
 intro k
 induction k with
 |zero=>
  intro i1 x x1 h1 h0 hx h2 h3
  simp only [cw]
  have hx1:x1≤x.length:=by omega
  rw [lZ hx1 (dY _)]
  simp only [bu,xy,AH]
  rw [show((0:Int))=((0:Nat):Int)from rfl,lZ (mA _) (by simp;omega)]
  simp only [bu,xn]
  have hn:p.drop (i+i1)=[]:=Dp (by omega)
  rw [hn,BH,tu,Dq (by simp;omega),za,Nat.min_self]
 |succ k ih=>
  intro i1 x x1 h1 h0 hx h2 h3
  have e1:x[i+i1]? =p[i+i1]? :=by
   have:=congrArg (fun l:List cU=>l[1]?) h3
   simp only [xr]at this
   rwa [show i+i1-1+1=i+i1 from by omega]at this
  have e0:x[i+i1-1]? =p[i+i1-1]? :=by
   have:=congrArg (fun l:List cU=>l[0]?) h3
   simpa only [xr,y9] using this
  have hlt:i+i1<p.length:=by omega
  have g1:ya x (i:Int) y.length (i1:Int)=some p[i+i1]:=by
   unfold ya
   rw [bk (by omega),show(i:Int)+(i1:Int)=((i+i1:Nat):Int)from by omega,cC,e1,ph hlt]
  have g0:ya x (i:Int) y.length (IntKind.i64.wrap ((i1:Int)-1))=some p[i+i1-1]:=by
   rw [cL (by omega) (by omega)]
   unfold ya
   rw [bk (by omega),show(i:Int)+((i1:Int)-1)=((i+i1-1:Nat):Int)from by omega,cC,e0,ph (by omega)]
  have hd:p.drop (i+i1)=p[i+i1]::p.drop (i+i1+1):=xu hlt
  have hp1:(p[i+i1-1]?).getD []=p[i+i1-1]:=by rw [ph (by omega)];rfl
  simp only [cw,g1,g0,bu,wr]
  rw [hd,hp1]
  by_cases hx2:p[i+i1]=p[i+i1-1]
  ·rw [aX (by simp [hx2])]
   have h3' :x.drop (i+(i1+1)-1)=p.drop (i+(i1+1)-1):=by
    have:=congrArg (List.drop 1) h3
    rwa [oO,oO,show i+i1-1+1=i+(i1+1)-1 from by omega]at this
   rw [ih (i1+1) x x1 (by omega) (by omega) hx (by omega) h3']
   rw [yW hx2,show i+(i1+1)-1=i+i1 from by omega,ph hlt,show i+(i1+1)=i+i1+1 from by omega]
   rfl
  ·rw [bk (by simp [hx2]),cC,ph (by omega)]
   simp only [bu,AH]
   rw [cL (by omega) (by omega),show((x1:Int)+1)=((x1+1:Nat):Int)from by omega]
   have h3' :(x.set x1 p[i+i1]).drop (i+(i1+1)-1)=p.drop (i+(i1+1)-1):=by
    rw [List.drop_set_of_lt (by omega)]
    have:=congrArg (List.drop 1) h3
    rwa [oO,oO,show i+i1-1+1=i+(i1+1)-1 from by omega]at this
   rw [ih (i1+1) _ (x1+1) (by omega) (by omega) (by simpa using hx) (by omega) h3']
   rw [D1 hx2,show i+(i1+1)-1=i+i1 from by omega,ph hlt,show i+(i1+1)=i+i1+1 from by omega]
   have ht:(x.set x1 p[i+i1]).take (x1+1)=x.take x1++[p[i+i1]]:=by
    rw [Jy (by simp;omega),List.take_set_of_le (by omega)]
    simp
   rw [ht]
   simp
theorem Nt(p:List cU)(hp:p.length≤8000):fq p pM=some (uS p):=by
 unfold fq
 by_cases h2:p.length<2
 ·rw [bk (by simp;omega)]
  match p,h2 with
  |[],_=>rfl
  |[x],_=>rfl
 ·rw [aX (by simp;omega)]
  have key: ∀(l:List cU) (i:Nat),p.drop i=l→0<i→i≤p.length→uS p=p.take i++ud ((p[i-1]?).getD []) (p.drop i)→cT p pM l i=some (uS p):=by
   intro l
   induction l with
   |nil=>
    intro i h1 h0 hle h3
    have:=HM.1 h1
    simp only [cT]
    rw [h3,h1,sC (by omega),BH,tu]
   |cons x t ih=>
    intro i h1 h0 hle h3
    have hi:i<p.length:=by
     rcases nL i p.length with h|h
     ·exact h
     ·rw [Dp h]at h1;cases h1
    have hx:x=p[i]:=by rw [xu hi]at h1;exact(Gu h1).1.symm
    have ht:p.drop (i+1)=t:=by rw [←oO,h1];rfl
    have hp1:(p[i-1]?).getD []=p[i-1]:=by rw [ph (by omega)];rfl
    simp only [cT]
    rw [cL (by omega) (by omega),show(i:Int)-1=((i-1:Nat):Int)from by omega,cC,ph (by omega)]
    simp only [bu,wr]
    by_cases he:x=p[i-1]
    ·rw [bk (by simp [he])]
     rw [lZ hle (dY _)]
     simp only [bu,xy]
     rw [Ns p hp i (p.drop i) (by simp;omega) _ 1 p i (by simp;omega) (by omega) rfl (by omega) (by simp)]
     rw [h3,h1,hp1,yW he,←ht,hx]
     rw [show i+1-1=i from by omega,ph hi];rfl
    ·rw [aX (by simp [he])]
     refine ih (i+1) ht (by omega) (by omega) ?_
     rw [h3,h1,hp1,D1 he,Jy hi,←ht,hx,show i+1-1=i from by omega,ph hi]
     rw [jO];rfl
  have hpc:p=p[0]::p.drop 1:=by
   have:=xu (l:=p) (i:=0) (by omega)
   simpa using this
  refine key (p.drop 1) 1 rfl (by omega) (by omega) ?_
  have e:(p[1-1]?).getD []=p[0]:=by simp [ph (show 0<p.length by omega)]
  rw [e]
  conv=>lhs;rw [hpc]
  have e2:p.take 1=[p[0]]:=by
   conv=>lhs;rw [hpc]
   rfl
  rw [e2];rfl
theorem Dv(h:Hs l):sU l=some (if oL l then(uS (Ad l),0)else([],150)):=by
 unfold sU
 rw [wq,HT l h.len,zC h]
 simp only [bu]
 rw [Nt _ (by rw [yz];exact h.len)]
 cases oL l<;>rfl

theorem WE(n:Int)(h0:0≤n)(h:n≤68719476736):iu n=some []:=by
 unfold iu jl
 rw [aX (by simp;omega)]
 have e:IntKind.i64.wrap (n-IntKind.i64.wrap ((0:Int)-0))=n:=by
  rw [cL (n:=(0:Int)-0) (by omega) (by omega),cL (by omega) (by omega)];omega
 rw [e]
 by_cases hp:0<n
 ·rw [bk (by simpa using hp)]
  unfold WZ nR
  rw [bk hp]
  simp only [bu]
  rw [bk ⟨h0,h⟩]
  simp only [bu]
  rw [show dP (List.replicate n.toNat ([]:cU)) 0 0=some []from by unfold dP;rw [bk (by simp;omega)];simp]
  rfl
 ·rw [aX (by simpa using hp)];rfl
theorem NP(a b:List cU)(ha:a.length≤8000)(hb:b.length≤8000):ff [a,b]=some (a++b):=by
 unfold ff
 simp only [ga]
 rw [cL (n:=(0:Int)+(a.length:Int)) (by omega) (by omega),aX (by simp),cL (by omega) (by omega),aX (by simp;omega),WE _ (by omega) (by omega)]
 simp only [bu,f9]
 rw [cJ (by simp;omega)]
 simp only [bu,k7]
 rw [cJ (by omega)]
 rfl

theorem ma{i j:Int}(l m:Nat)(hi:i=(l:Int))(hj:j=(m:Int))(h:l≤m)(h2:m≤xs.length):dP xs i j=some ((xs.take m).drop l):=by
 subst hi hj;exact lZ h h2
theorem iA{i:Int}(k:Nat)(hi:i=(k:Int)):de xs i=xs[k]? :=by subst hi;exact cC _ _
def mP(v:ac):Bool:=fG v&&(v.Kind !=4)
theorem tB(v:ac):mC v=some (mP v):=by
 unfold mC mP
 rw [nU]
 cases fG v<;>simp
theorem jD(v:ac):lw v=some (mP v):=by
 unfold lw mP
 rw [fI]
 rfl
theorem Kk(h:mP v=true):0≤v.Kind∧v.Kind≤3:=by
 obtain⟨k,n,u,s⟩:=v
 unfold mP fG dw at h
 simp only [mz,rM,pG]at h
 obtain⟨h1,h2⟩:=h
 by_cases h0:k=0
 ·simp [h0]
 by_cases k1:k=1
 ·simp [k1]
 by_cases k2:k=2
 ·simp [k2]
 by_cases k3:k=3
 ·simp [k3]
 simp [h0,k1,k2,k3,h2]at h1
def pk(tag:Int):Option Nat:=if tag=1∨tag=2 then some 0 else if 4≤tag∧tag≤7 then some 1 else if 12≤tag∧tag≤23 then some 2 else none
def Ig(tag:Int):Int:=match pk tag with
 |some k=>(k:Int)
 |none=> -1
variable{tag:Int}
theorem zK(tag:Int):pE tag=some (Ig tag):=by
 unfold pE Ig pk
 by_cases h1:tag=1∨tag=2
 ·rw [bk h1,bk (by simpa using h1)];rfl
 rw [aX h1,aX (by simpa using h1)]
 by_cases h2:4≤tag∧tag≤7
 ·rw [bk h2,bk (by simpa using h2)];rfl
 rw [aX h2,aX (by simpa using h2)]
 by_cases h3:12≤tag∧tag≤23
 ·rw [bk h3,bk (by simpa using h3)];rfl
 rw [aX h3,aX (by simpa using h3)]
theorem qk(tag:Int):uC tag=some (Ig tag):=by
 unfold uC xP Ig pk
 by_cases h1:tag=1∨tag=2
 ·rw [bk h1];rcases h1 with rfl|rfl<;>rfl
 rw [aX h1]
 by_cases h2:4≤tag∧tag≤7
 ·rw [bk h2]
  have:tag=4∨tag=5∨tag=6∨tag=7:=by omega
  rcases this with rfl|rfl|rfl|rfl<;>rfl
 rw [aX h2]
 by_cases h3:12≤tag∧tag≤23
 ·rw [bk h3,aX (by simp;omega),aX (by simp;omega),aX (by simp;omega),aX (by simp;omega)];rfl
 rw [aX h3]
 by_cases h4:tag=3∨(8≤tag∧tag≤11)
 ·rw [bk (by simpa using h4)]
 rw [aX (by simpa using h4),bk (by simp;omega)]
 rfl
def Jn(n:bC):Bool:=(lv n).getD false
theorem jX(n:bC):lv n=some (Jn n):=by
 unfold Jn lv
 rw [jD]
 split
 ·rfl
 ·split<;>rfl
theorem Fl(n:bC):uP n=some (Jn n):=by
 rw [←jX]
 unfold uP lv
 rw [jD,tB]
inductive Tr where
 |lf (n:bC)
 |un (n:bC) (a:Tr)
 |bi (n:bC) (a b:Tr)
 deriving Inhabited
def Tr.size:Tr→Nat
 | .lf _=>1
 | .un _ a=>a.size+1
 | .bi _ a b=>a.size+b.size+1
def il(n:bC)(l r:Int):bC:={n with L:=l,R:=r}
def Tr.flat:Tr→Nat→List bC
 | .lf n,_=>[il n (-1) (-1)]
 | .un n a,s=>a.flat s++[il n ((s+a.size:Nat)-1) (-1)]
 | .bi n a b,s=>a.flat s++b.flat (s+a.size)++[il n ((s+a.size:Nat)-1) ((s+a.size+b.size:Nat)-1)]
def Yn(k:Nat)(n:bC):Prop:=pk n.Tag=some k∧Jn n=true∧n.L= -1∧n.R= -1
def Tr.wf:Tr→Prop
 | .lf n=>Yn 0 n
 | .un n a=>Yn 1 n∧a.wf
 | .bi n a b=>Yn 2 n∧a.wf∧b.wf
theorem Tr.size_pos(t:Tr):0<t.size:=by cases t<;>simp [Tr.size]
theorem Tr.flat_len(t:Tr): ∀s,(t.flat s).length=t.size:=by
 induction t with
 |lf n=>intro s;rfl
 |un n a ih=>intro s;simp [Tr.flat,Tr.size,ih]
 |bi n a b iha ihb=>intro s;simp [Tr.flat,Tr.size,iha,ihb];omega
def cr:List Tr→Nat
 |[]=>0
 |t::st=>cr st+t.size
def w9:List Tr→List bC
 |[]=>[]
 |t::st=>w9 st++t.flat (cr st)
theorem Hb: ∀st:List Tr,(w9 st).length=cr st
 |[]=>rfl
 |t::st=>by simp [w9,cr,Hb st,t.flat_len]
theorem GO: ∀st:List Tr,st.length≤cr st
 |[]=>dY _
 |t::st=>by have:=GO st;have:=t.size_pos;simp [cr];omega
def push(st:List Tr)(n:bC):Option (List Tr):=
 match pk n.Tag,st with
 |some 0,st=>if Jn n&&n.L== -1&&n.R== -1 then some (.lf (il n (-1) (-1))::st)else none
 |some 1,a::st=>if Jn n&&n.L==((cr st+a.size:Nat):Int)-1&&n.R== -1 then some (.un (il n (-1) (-1)) a::st)else none
 |some 2,b::a::st=>if Jn n&&n.L==((cr st+a.size:Nat):Int)-1&&n.R==((cr st+a.size+b.size:Nat):Int)-1 then some (.bi (il n (-1) (-1)) a b::st)else none
 |_,_=>none
def pR:List bC→List Tr→Option (List Tr)
 |[],st=>some st
 |n::ns,st=>(push st n).bind (pR ns)
def wfs(st:List Tr):Prop:= ∀t∈st,t.wf
theorem yI{l r:Int}(h:n.L=l)(h2:n.R=r):il (il n (-1) (-1)) l r=n:=by subst h h2;rfl
theorem PZ{st st' :List Tr}(h:push st n=some st')(hw:wfs st):w9 st' =w9 st++[n]∧cr st' =cr st+1∧wfs st' :=by
 unfold push at h
 split at h
 ·rename_i k st0 hk
  split at h
  ·rename_i hc
   simp only [mz,tt]at hc
   obtain⟨⟨h1,h2⟩,h3⟩:=hc
   cases h
   refine⟨?_,rfl,fun t ht=>?_⟩
   ·simp only [w9,Tr.flat]
    rw [yI h2 h3]
   ·rcases gk.1 ht with rfl|ht
    ·exact⟨hk,h1,rfl,rfl⟩
    ·exact hw t ht
  ·cases h
 ·rename_i k a st0 hk
  split at h
  ·rename_i hc
   simp only [mz,tt]at hc
   obtain⟨⟨h1,h2⟩,h3⟩:=hc
   cases h
   refine⟨?_,by simp [cr,Tr.size];omega,fun t ht=>?_⟩
   ·simp only [w9,Tr.flat]
    rw [yI h2 h3,jO]
   ·rcases gk.1 ht with rfl|ht
    ·exact⟨⟨hk,h1,rfl,rfl⟩,hw a (lb ..)⟩
    ·exact hw t (lc _ ht)
  ·cases h
 ·rename_i k b a st0 hk
  split at h
  ·rename_i hc
   simp only [mz,tt]at hc
   obtain⟨⟨h1,h2⟩,h3⟩:=hc
   cases h
   refine⟨?_,by simp [cr,Tr.size];omega,fun t ht=>?_⟩
   ·simp only [w9,Tr.flat,cr]
    rw [yI h2 h3]
    simp only [jO]
   ·rcases gk.1 ht with rfl|ht
    ·exact⟨⟨hk,h1,rfl,rfl⟩,hw a (lc _ (lb ..)),hw b (lb ..)⟩
    ·exact hw t (lc _ (lc _ ht))
  ·cases h
 ·cases h
variable{ns:List bC}
theorem Am: ∀{ns:List bC} {st st' :List Tr},pR ns st=some st' →wfs st→w9 st' =w9 st++ns∧wfs st'
 |[],st,st',h,hw=>by cases h;simp [hw]
 |n::ns,st,st',h,hw=>by
  unfold pR at h
  cases hp:push st n with
  |none=>rw [hp]at h;cases h
  |some st1=>
   rw [hp]at h
   obtain⟨h1,_,h3⟩:=PZ hp hw
   obtain⟨h4,h5⟩:=Am (ns:=ns) h h3
   exact⟨by rw [h4,h1];simp,h5⟩
theorem sX: ∀(ns ms:List bC) (st:List Tr),pR (ns++ms) st=(pR ns st).bind (pR ms)
 |[],ms,st=>rfl
 |n::ns,ms,st=>by
  simp only [xo,pR]
  cases push st n with
  |none=>rfl
  |some st1=>exact sX ns ms st1
theorem ML(t:Tr): ∀(st:List Tr),t.wf→pR (t.flat (cr st)) st=some (t::st):=by
 induction t with
 |lf n=>
  intro st ⟨h1,h2,h3,h4⟩
  have hn' :il n (-1) (-1)=n:=by cases n;simp only at h3 h4;subst h3 h4;rfl
  simp only [Tr.flat,pR,push,hn']
  rw [h1]
  simp [h2,h3,h4,pR,hn']
 |un n a ih=>
  intro st ⟨⟨h1,h2,h3,h4⟩,ha⟩
  have hn' :il n (-1) (-1)=n:=by cases n;simp only at h3 h4;subst h3 h4;rfl
  simp only [Tr.flat]
  rw [sX,ih st ha]
  simp only [bu,pR,push]
  have e1:(il n (((cr st+a.size:Nat):Int)-1) (-1)).Tag=n.Tag:=rfl
  rw [e1,h1]
  have e2:Jn (il n (((cr st+a.size:Nat):Int)-1) (-1))=true:=h2
  rw [e2]
  simp only [il,GB,Bool.and_self,fM,bu,pR]
  simp only [il]at hn'
  rw [hn']
 |bi n a b iha ihb=>
  intro st ⟨⟨h1,h2,h3,h4⟩,ha,hb⟩
  have hn' :il n (-1) (-1)=n:=by cases n;simp only at h3 h4;subst h3 h4;rfl
  simp only [Tr.flat]
  rw [sX,sX,iha st ha]
  simp only [bu]
  have e0:cr st+a.size=cr (a::st):=rfl
  rw [e0,ihb (a::st) hb]
  simp only [bu,pR,push]
  have e1:(il n (((cr (a::st):Nat):Int)-1) (((cr (a::st)+b.size:Nat):Int)-1)).Tag=n.Tag:=rfl
  rw [e1,h1]
  have e2:Jn (il n (((cr (a::st):Nat):Int)-1) (((cr (a::st)+b.size:Nat):Int)-1))=true:=h2
  rw [e2]
  simp only [il,cr,GB,Bool.and_self,fM,bu,pR]
  simp only [il]at hn'
  rw [hn']
def mJ(ns:List bC):Option Tr:=match pR ns []with
 |some [t]=>if ns.length≤1000 then some t else none
 |_=>none
theorem kz{t:Tr}(h:mJ ns=some t):t.wf∧ns=t.flat 0∧t.size≤1000:=by
 unfold mJ at h
 split at h
 ·rename_i t0 hp
  split at h
  ·rename_i hl
   cases h
   obtain⟨h1,h2⟩:=Am hp (fun t ht=>by cases ht)
   simp only [w9,cr,k7]at h1
   exact⟨h2 t (lb ..),h1.symm,by rw [←t.flat_len 0,h1];exact hl⟩
  ·cases h
 ·cases h
theorem JL{t:Tr}(h:t.wf)(hs:t.size≤1000):mJ (t.flat 0)=some t:=by
 unfold mJ
 have h0:=ML t [] h
 simp only [cr]at h0
 rw [h0]
 simp only [t.flat_len,hs,fM]
def fl:Tr→Nat→List Int
 | .lf _,s=>[(s:Int)]
 | .un _ a,s=>fl a s++[(s:Int)]
 | .bi _ a b,s=>fl a s++fl b (s+a.size)++[(s:Int)]
def Qr:List Tr→List Int
 |[]=>[]
 |t::st=>Qr st++fl t (cr st)
def mO:List Tr→List Int
 |[]=>[]
 |t::st=>mO st++[((cr st+t.size:Nat):Int)-1]
theorem wA(t:Tr): ∀s,(fl t s).length=t.size:=by
 induction t with
 |lf n=>intro s;rfl
 |un n a ih=>intro s;simp [fl,Tr.size,ih]
 |bi n a b iha ihb=>intro s;simp [fl,Tr.size,iha,ihb];omega
theorem uL: ∀st:List Tr,(Qr st).length=cr st
 |[]=>rfl
 |t::st=>by simp [Qr,cr,uL st,wA]
theorem du: ∀st:List Tr,(mO st).length=st.length
 |[]=>rfl
 |t::st=>by simp [mO,du st]
theorem UA(t:Tr)(s:Nat):(fl t s)[t.size-1]? =some (s:Int):=by
 cases t with
 |lf n=>rfl
 |un n a=>simp only [fl,Tr.size];rw [uX (by rw [wA];omega),wA];simp
 |bi n a b=>simp only [fl,Tr.size];rw [uX (by simp [wA]),jx,wA,wA];simp
theorem Fc(t:Tr)(st:List Tr)(rest:List Int):(Qr st++fl t (cr st)++rest)[cr st+t.size-1]? =some (cr st:Int):=by
 have:=t.size_pos
 rw [B0 (by rw [jx,uL,wA];omega),uX (by rw [uL];omega),uL,show cr st+t.size-1-cr st=t.size-1 from by omega]
 exact UA t _
theorem Qt: ∀(ns:List bC) (st:List Tr),cr st+ns.length≤100000→kW ns (cr st) (Qr st) (mO st)=some (match pR ns st with
   |some st' =>(Qr st',decide (st'.length=1)&&decide (cr st' ≤1000))
   |none=>([],false)):=by
 intro ns
 induction ns with
 |nil=>
  intro st _
  simp only [kW,pR,du,uL]
  congr 2
  congr 1
  ·rw [AE];simp;omega
  ·rw [AE];simp;omega
 |cons n ns ih=>
  intro st hs
  simp only [jf]at hs
  have hll:=GO st
  unfold kW
  rw [zK]
  simp only [bu,du,Fl]
  unfold pR
  unfold push
  -- the parts
  cases hk:pk n.Tag with
  |none=>
   have e:Ig n.Tag= -1:=by unfold Ig;rw [hk]
   simp [e]
  |some k=>
   have e:Ig n.Tag=(k:Int):=by unfold Ig;rw [hk]
   have hk3:k=0∨k=1∨k=2:=by
    unfold pk at hk
    repeat' split at hk
    all_goals simp at hk
    all_goals omega
   rw [e]
   rcases hk3 with rfl|rfl|rfl
   ·-- none
    simp only []
    have c1:(decide (((0:Nat):Int)<0)||decide ((st.length:Int)<((0:Nat):Int)))=false:=by simp
    simp only [c1,xw,fM,bu]
    cases hc:Jn n with
    |false=>simp
    |true=>
     simp only [nh,gL,eT,vg]
     rw [ma st.length st.length (by rw [cL (by omega) (by omega)];omega) rfl (dY _) (by rw [du];exact dY _)]
     have hd:(List.take st.length (mO st)).drop st.length=[]:=D5 (by simp;omega)
     simp only [hd,bu,mo]
     by_cases hL:n.L= -1∧n.R= -1
     ·have hb:(n.L== -1&&n.R== -1)=true:=by simp [hL]
      rw [bk hb,aX (by simp [hL.1,hL.2])]
      rw [cJ (by simp only [jf,pZ,uL];omega)]
      simp only [bu]
      rw [ma (i:=0) 0 st.length rfl (by rw [du,cL (by omega) (by omega)];omega) (mA _) (by rw [du];exact dY _)]
      rw [sC (by rw [du];exact dY _),xn]
      simp only [bu]
      rw [cJ (by simp only [jf,pZ,du];omega)]
      simp only [bu]
      have h2:=ih (.lf (il n (-1) (-1))::st) (by simp [cr,Tr.size];omega)
      simp only [cr,Tr.size,Qr,fl,mO]at h2
      rw [show(((cr st+1:Nat):Int)-1)=(cr st:Int)from by omega]at h2
      exact h2
     ·have hb:(n.L== -1&&n.R== -1)=false:=by
       rw [sL];intro h;apply hL;simpa using h
      rw [hb]
      rw [bk (by
       simp only [Dn,FZ]
       intro h
       have h1:(-1:Int)=n.L:=by injection h
       have h2:(-1:Int)=n.R:=by injection h with _ h;injection h
       exact hL ⟨h1.symm,h2.symm⟩)]
      simp
   ·-- one
    cases st with
    |nil=>simp
    |cons a st=>
     simp only []
     have c1:(decide (((1:Nat):Int)<0)||decide (((a::st).length:Int)<((1:Nat):Int)))=false:=by simp;omega
     simp only [c1,xw,fM,bu]
     cases hc:Jn n with
     |false=>simp
     |true=>
      simp only [nh,gL,eT,vg]
      simp only [jf]at hll ⊢
      simp only [cr]at hs hll
      have hap:=a.size_pos
      rw [ma st.length (st.length+1) (by rw [cL (by omega) (by omega)];omega) (by omega) (by omega) (by rw [du];exact dY _)]
      have hd:(List.take (st.length+1) (mO (a::st))).drop st.length=[((cr st+a.size:Nat):Int)-1]:=by
       rw [sC (by rw [du];exact dY _)]
       simp only [mO]
       rw [GH (by rw [du];exact dY _),D5 (by rw [du];exact dY _),k7]
      rw [hd]
      simp only [bu,mo]
      rw [iA (cr st+a.size-1) (by omega)]
      have hf:=Fc a st []
      rw [tu]at hf
      simp only [Qr]
      rw [hf]
      simp only [bu]
      rw [iA 0 rfl]
      simp only [F0,bu]
      have hset:([(-1:Int),-1].set ((0:Nat):Int).toNat (((cr st+a.size:Nat):Int)-1))=[((cr st+a.size:Nat):Int)-1,-1]:=rfl
      rw [hset]
      by_cases hL:n.L=((cr st+a.size:Nat):Int)-1∧n.R= -1
      ·have hb:(n.L==((cr st+a.size:Nat):Int)-1&&n.R== -1)=true:=by simp [hL]
       rw [bk hb,aX (by rw [hL.1,hL.2];simp)]
       rw [cJ (by simp only [jf,pZ,jx,uL,wA];omega)]
       simp only [bu]
       rw [ma (i:=0) 0 st.length rfl (by rw [du,cL (by simp<;>omega) (by simp<;>omega)];simp) (mA _) (by rw [du];simp)]
       have ht:(List.take st.length (mO (a::st))).drop 0=mO st:=by
        simp only [mO,xn]
        rw [Dq (by rw [du];exact dY _),sC (by rw [du];exact dY _)]
       rw [ht]
       simp only [bu]
       rw [cJ (by simp only [jf,pZ,du];omega)]
       simp only [bu]
       have h2:=ih (.un (il n (-1) (-1)) a::st) (by simp [cr,Tr.size];omega)
       simp only [cr,Tr.size,Qr,fl,mO]at h2
       rw [show(((cr st+(a.size+1):Nat):Int)-1)=((cr st+a.size:Nat):Int)from by omega]at h2
       have hm:min ((cr (a::st):Nat):Int) (cr st:Int)=(cr st:Int):=by simp only [cr];omega
       rw [hm]
       simp only [jO]at h2 ⊢
       exact h2
      ·have hb:(n.L==((cr st+a.size:Nat):Int)-1&&n.R== -1)=false:=by
        rw [sL];intro h;apply hL;simpa using h
       rw [hb]
       rw [bk (by
        simp only [Dn,FZ]
        intro h
        have h1:((cr st+a.size:Nat):Int)-1=n.L:=by injection h
        have h2:(-1:Int)=n.R:=by injection h with _ h;injection h
        exact hL ⟨h1.symm,h2.symm⟩)]
       simp
   ·-- two
    cases st with
    |nil=>simp
    |cons b st=>
     cases st with
     |nil=>simp
     |cons a st=>
      simp only []
      have c1:(decide (((2:Nat):Int)<0)||decide (((b::a::st).length:Int)<((2:Nat):Int)))=false:=by simp;omega
      simp only [c1,xw,fM,bu]
      cases hc:Jn n with
      |false=>simp
      |true=>
       simp only [nh,gL,eT,vg]
       simp only [jf]at hll ⊢
       simp only [cr]at hs hll
       have hap:=a.size_pos
       have hbp:=b.size_pos
       rw [ma st.length (st.length+1+1) (by rw [cL (by omega) (by omega)];omega) (by omega) (by omega) (by rw [du];exact dY _)]
       have hd:(List.take (st.length+1+1) (mO (b::a::st))).drop st.length=[((cr st+a.size:Nat):Int)-1,((cr st+a.size+b.size:Nat):Int)-1]:=by
        rw [sC (by rw [du];exact dY _)]
        simp only [mO,cr,jO]
        rw [GH (by rw [du];exact dY _),D5 (by rw [du];exact dY _),k7]
        rfl
       rw [hd]
       simp only [bu,mo]
       simp only [Qr,cr]
       rw [iA (cr st+a.size-1) (by omega)]
       rw [Fc a st (fl b (cr st+a.size))]
       simp only [bu]
       rw [iA 0 rfl]
       simp only [F0,bu]
       have hset:([(-1:Int),-1].set ((0:Nat):Int).toNat (((cr st+a.size:Nat):Int)-1))=[((cr st+a.size:Nat):Int)-1,-1]:=rfl
       rw [hset]
       rw [iA (cr st+a.size+b.size-1) (by omega)]
       have hf:=Fc b (a::st) []
       rw [tu]at hf
       simp only [Qr,cr]at hf
       rw [hf]
       simp only [bu]
       rw [iA (0+1) rfl]
       simp only [NW,F0,bu]
       have hset2:([((cr st+a.size:Nat):Int)-1,-1].set ((0+1:Nat):Int).toNat (((cr st+a.size+b.size:Nat):Int)-1))=[((cr st+a.size:Nat):Int)-1,((cr st+a.size+b.size:Nat):Int)-1]:=rfl
       rw [hset2]
       by_cases hL:n.L=((cr st+a.size:Nat):Int)-1∧n.R=((cr st+a.size+b.size:Nat):Int)-1
       ·have hb:(n.L==((cr st+a.size:Nat):Int)-1&&n.R==((cr st+a.size+b.size:Nat):Int)-1)=true:=by rw [hL.1,hL.2];simp
        rw [bk hb,aX (by rw [hL.1,hL.2];simp)]
        rw [cJ (by simp only [jf,pZ,jx,uL,wA];omega)]
        simp only [bu]
        rw [ma (i:=0) 0 st.length rfl (by rw [du,cL (by simp;omega) (by simp;omega)];simp;omega) (mA _) (by rw [du];simp;omega)]
        have ht:(List.take st.length (mO (b::a::st))).drop 0=mO st:=by
         simp only [mO,xn,jO]
         rw [Dq (by rw [du];exact dY _),sC (by rw [du];exact dY _)]
        rw [ht]
        simp only [bu]
        rw [cJ (by simp only [jf,pZ,du];omega)]
        simp only [bu]
        have h2:=ih (.bi (il n (-1) (-1)) a b::st) (by simp [cr,Tr.size];omega)
        simp only [cr,Tr.size,Qr,fl,mO]at h2
        rw [show(((cr st+(a.size+b.size+1):Nat):Int)-1)=((cr st+a.size+b.size:Nat):Int)from by omega,show cr st+(a.size+b.size+1)=cr st+a.size+b.size+1 from by omega]at h2
        have hm:min (min (((cr st+a.size+b.size:Nat)):Int) (cr st:Int)) ((cr st+a.size:Nat):Int)=(cr st:Int):=by omega
        rw [hm]
        simp only [jO]at h2 ⊢
        exact h2
       ·have hb:(n.L==((cr st+a.size:Nat):Int)-1&&n.R==((cr st+a.size+b.size:Nat):Int)-1)=false:=by
         rw [sL];intro h;apply hL;simpa using h
        rw [hb]
        rw [bk (by
         simp only [Dn,FZ]
         intro h
         have h1:((cr st+a.size:Nat):Int)-1=n.L:=by injection h
         have h2:((cr st+a.size+b.size:Nat):Int)-1=n.R:=by injection h with _ h;injection h
         exact hL ⟨h1.symm,h2.symm⟩)]
        simp

theorem mR{n:Nat}(h:n≤1000000):n≤ir:=by unfold ir;omega
def jd(ns:List bC):Bool:=(mJ ns).isSome
theorem Km{st:List Tr}(h:pR ns []=some st):cr st=ns.length:=by
 have:=(Am h (fun t ht=>by cases ht)).1
 rw [←Hb,this];simp [w9]
theorem rJ(e:bS)(h:e.Nodes.length≤100000):ol e=some (if jd e.Nodes then 0 else 200):=by
 unfold ol yg jd mJ
 have:=Qt e.Nodes [] (by simpa [cr] using h)
 simp only [cr,Qr,mO]at this
 rw [this]
 cases hp:pR e.Nodes []with
 |none=>rfl
 |some st=>
  have hsz:=Km hp
  match st,hsz with
  |[],_=>rfl
  |[t],hsz=>
   simp only [bu,hsz]
   by_cases hl:e.Nodes.length≤1000<;>simp [hl]
  |t::t2::st,_=>simp
theorem TX(t:Tr):t.wf→ ∀(P R N:List bC) (fu:Nat),N=P++t.flat P.length++R→t.size≤fu→N.length≤100000→iI fu ⟨N⟩ (((P.length+t.size:Nat):Int)-1)=some (t.size:Int):=by
 induction t with
 |lf n=>
  intro⟨h1,h2,h3,h4⟩ P R N fu hN hf hl
  have hNl:=congrArg List.length hN
  simp only [jx,Tr.flat_len]at hNl
  simp only [Tr.size]at hf hNl ⊢
  obtain⟨fu,rfl⟩: ∃k,fu=k+1:=⟨fu-1,by omega⟩
  unfold iI
  have hx:N[P.length]? =some (il n (-1) (-1)):=by
   rw [hN,jO,uX (dY _),zT];rfl
  rw [aX (by simp;omega),iA P.length (by omega),hx]
  have e1:(il n (-1) (-1)).Tag=n.Tag:=rfl
  simp only [bu]
  rw [e1,qk]
  have e:Ig n.Tag=0:=by unfold Ig;rw [h1];rfl
  simp only [e,bu,jX]
  have e2:Jn (il n (-1) (-1))=true:=h2
  rw [e2]
  simp [il]
 |un n a ih=>
  intro⟨⟨h1,h2,h3,h4⟩,ha⟩ P R N fu hN hf hl
  obtain⟨m,hm⟩: ∃m,m=il n (((P.length+a.size:Nat):Int)-1) (-1):=⟨_,rfl⟩
  have hNl:=congrArg List.length hN
  simp only [jx,Tr.flat_len]at hNl
  simp only [Tr.size]at hf hNl ⊢
  simp only [Tr.flat,←hm]at hN
  obtain⟨fu,rfl⟩: ∃k,fu=k+1:=⟨fu-1,by omega⟩
  have hpos:=a.size_pos
  have hi:=ih ha P ([m]++R) N fu (by rw [hN];simp only [jO]) (by omega) hl
  unfold iI
  have hx:N[P.length+a.size]? =some m:=by
   rw [hN,jO,jO,←jO P,uX (by simp [a.flat_len])]
   simp [a.flat_len]
  rw [aX (by simp;omega),iA (P.length+a.size) (by omega),hx]
  simp only [bu]
  have e1:m.Tag=n.Tag:=by rw [hm];rfl
  rw [e1,qk]
  have e:Ig n.Tag=1:=by unfold Ig;rw [h1];rfl
  simp only [e,bu,jX]
  have e2:Jn m=true:=by rw [hm];exact h2
  have eL:m.L=((P.length+a.size:Nat):Int)-1:=by rw [hm];rfl
  have eR:m.R= -1:=by rw [hm];rfl
  rw [cL (n:=((P.length+(a.size+1):Nat):Int)-1-1) (by omega) (by omega),show(((P.length+(a.size+1):Nat):Int)-1-1)=(((P.length+a.size:Nat):Int)-1)from by omega]
  rw [hi]
  simp only [bu]
  rw [cL (n:=(a.size:Int)+1) (by omega) (by omega)]
  have n1: ¬a.size=0:=by omega
  simp [e2,eL,eR,n1]
 |bi n a b iha ihb=>
  intro⟨⟨h1,h2,h3,h4⟩,ha,hb⟩ P R N fu hN hf hl
  obtain⟨m,hm⟩: ∃m,m=il n (((P.length+a.size:Nat):Int)-1) (((P.length+a.size+b.size:Nat):Int)-1):=⟨_,rfl⟩
  have hNl:=congrArg List.length hN
  simp only [jx,Tr.flat_len]at hNl
  simp only [Tr.size]at hf hNl ⊢
  simp only [Tr.flat,←hm]at hN
  obtain⟨fu,rfl⟩: ∃k,fu=k+1:=⟨fu-1,by omega⟩
  have hap:=a.size_pos
  have hbp:=b.size_pos
  have hi1:=iha ha P (b.flat (P.length+a.size)++[m]++R) N fu (by rw [hN];simp only [jO]) (by omega) hl
  have hi2:=ihb hb (P++a.flat P.length) ([m]++R) N fu (by rw [hN];simp only [jO,jx,a.flat_len]) (by omega) hl
  rw [jx,a.flat_len]at hi2
  unfold iI
  have hx:N[P.length+a.size+b.size]? =some m:=by
   rw [hN,jO,jO,←jO P,uX (by simp [a.flat_len,b.flat_len];omega)]
   have:P.length+a.size+b.size-(P++(a.flat P.length++b.flat (P.length+a.size))).length=0:=by simp [a.flat_len,b.flat_len];omega
   rw [this];rfl
  rw [aX (by simp;omega),iA (P.length+a.size+b.size) (by omega),hx]
  simp only [bu]
  have e1:m.Tag=n.Tag:=by rw [hm];rfl
  rw [e1,qk]
  have e:Ig n.Tag=2:=by unfold Ig;rw [h1];rfl
  simp only [e,bu,jX]
  have e2:Jn m=true:=by rw [hm];exact h2
  have eL:m.L=((P.length+a.size:Nat):Int)-1:=by rw [hm];rfl
  have eR:m.R=((P.length+a.size+b.size:Nat):Int)-1:=by rw [hm];rfl
  rw [cL (n:=((P.length+(a.size+b.size+1):Nat):Int)-1-1) (by omega) (by omega),show(((P.length+(a.size+b.size+1):Nat):Int)-1-1)=(((P.length+a.size+b.size:Nat):Int)-1)from by omega]
  rw [hi2]
  simp only [bu]
  rw [cL (n:=((P.length+a.size+b.size:Nat):Int)-1-(b.size:Int)) (by omega) (by omega),show((P.length+a.size+b.size:Nat):Int)-1-(b.size:Int)=((P.length+a.size:Nat):Int)-1 from by omega]
  rw [hi1]
  simp only [bu]
  rw [cL (n:=(a.size:Int)+(b.size:Int)) (by omega) (by omega),cL (n:=(a.size:Int)+(b.size:Int)+1) (by omega) (by omega)]
  have n1: ¬a.size=0:=by omega
  have n2: ¬b.size=0:=by omega
  have e5:(P.length:Int)+(a.size:Int)+(b.size:Int)-1-(b.size:Int)=(P.length:Int)+(a.size:Int)-1:=by omega
  simp [e2,eL,eR,n1,n2,e5]
theorem TY(N:List bC)(hN:N.length≤100000): ∀(fu q:Nat),q≤N.length→q<fu→ ∃k:Nat,iI fu ⟨N⟩ ((q:Int)-1)=some (k:Int)∧(k=0∨ ∃(t:Tr) (P R:List bC),t.wf∧t.size=k∧N=P++t.flat P.length++R∧P.length+k=q):=by
 intro fu
 induction fu with
 |zero=>intro q _ h;omega
 |succ fu ih=>
  intro q hq hf
  unfold iI
  by_cases h0:q=0
  ·subst h0
   exact⟨0,by rw [bk (by simp)];rfl,.inl rfl⟩
  rw [aX (by simp;omega),iA (q-1) (by omega)]
  have hlt:q-1<N.length:=by omega
  rw [ph hlt]
  obtain⟨n,hn⟩: ∃n,n=N[q-1]:=⟨_,rfl⟩
  rw [←hn]
  have hd:N=N.take (q-1)++([n]++N.drop q):=by
   have h1:=ut (q-1) N
   rw [xu hlt,←hn,show q-1+1=q from by omega]at h1
   exact h1.symm
  simp only [bu,qk,jX]
  cases hk:pk n.Tag with
  |none=>
   have e:Ig n.Tag= -1:=by unfold Ig;rw [hk]
   exact⟨0,by simp [e],.inl rfl⟩
  |some k=>
   have e:Ig n.Tag=(k:Int):=by unfold Ig;rw [hk]
   have hk3:k=0∨k=1∨k=2:=by
    unfold pk at hk
    repeat' split at hk
    all_goals simp at hk
    all_goals omega
   cases hc:Jn n with
   |false=>exact⟨0,by simp [e,hc],.inl rfl⟩
   |true=>
    rcases hk3 with rfl|rfl|rfl
    ·rw [e]
     by_cases hL:n.L= -1∧n.R= -1
     ·refine⟨1,by simp [hL],.inr ⟨.lf (il n (-1) (-1)),N.take (q-1),N.drop q,⟨hk,hc,rfl,rfl⟩,rfl,?_,by simp;omega⟩⟩
      simp only [Tr.flat]
      rw [yI hL.1 hL.2,jO]
      exact hd
     ·refine⟨0,?_,.inl rfl⟩
      have:(n.L != -1||n.R != -1)=true:=by
       rw [qO,rM,rM]
       by_cases hl:n.L= -1
       ·exact .inr fun h=>hL ⟨hl,h⟩
       ·exact .inl hl
      simp [this]
    ·rw [e,cL (by omega) (by omega)]
     have e9:(((q-1:Nat):Int)-1)=(q:Int)-1-1:=by omega
     obtain⟨r2,h2,h2'⟩:=ih (q-1) (by omega) (by omega)
     rw [e9]at h2
     rw [h2]
     rcases h2' with rfl|⟨t,P,R,hw,hs,hN2,hl⟩
     ·exact⟨0,by simp,.inl rfl⟩
     ·have hp:=t.size_pos
      by_cases hL:n.L=(q:Int)-1-1∧n.R= -1
      ·refine⟨r2+1,?_,.inr ⟨.un (il n (-1) (-1)) t,P,N.drop q,⟨⟨hk,hc,rfl,rfl⟩,hw⟩,by simp only [Tr.size];omega,?_,by omega⟩⟩
       ·simp only [bu]
        rw [cL (n:=(r2:Int)+1) (by omega) (by omega)]
        have: ¬(r2=0):=by omega
        simp [hL,this]
       ·simp only [Tr.flat]
        rw [yI (by rw [hL.1];omega) hL.2]
        have ht:N.take (q-1)=P++t.flat P.length:=by
         rw [hN2,Dq (by simp [t.flat_len];omega),sC (by simp [t.flat_len];omega)]
        rw [ht]at hd
        simpa only [jO] using hd
      ·refine⟨0,?_,.inl rfl⟩
       have:(n.L !=(q:Int)-1-1||n.R != -1)=true:=by
        rw [qO,rM,rM]
        by_cases hl:n.L=(q:Int)-1-1
        ·exact .inr fun h=>hL ⟨hl,h⟩
        ·exact .inl hl
       simp [this]
    ·rw [e,cL (n:=(q:Int)-1-1) (by omega) (by omega)]
     have e9:(((q-1:Nat):Int)-1)=(q:Int)-1-1:=by omega
     obtain⟨r2,h2,h2'⟩:=ih (q-1) (by omega) (by omega)
     rw [e9]at h2
     rw [h2]
     rcases h2' with rfl|⟨t,P,R,hw,hs,hN2,hl⟩
     ·exact⟨0,by simp,.inl rfl⟩
     ·have hp:=t.size_pos
      simp only [bu]
      rw [cL (n:=(q:Int)-1-1-(r2:Int)) (by omega) (by omega)]
      have e8:(((q-1-r2:Nat):Int)-1)=(q:Int)-1-1-(r2:Int):=by omega
      have n2: ¬(r2=0):=by omega
      obtain⟨r3,h3,h3'⟩:=ih (q-1-r2) (by omega) (by omega)
      rw [e8]at h3
      rw [h3]
      rcases h3' with rfl|⟨t3,P3,R3,hw3,hs3,hN3,hl3⟩
      ·exact⟨0,by simp,.inl rfl⟩
      ·have hp3:=t3.size_pos
       have n3: ¬(r3=0):=by omega
       by_cases hL:n.R=(q:Int)-1-1∧n.L=(q:Int)-1-1-(r2:Int)
       ·refine⟨r3+r2+1,?_,.inr ⟨.bi (il n (-1) (-1)) t3 t,P3,N.drop q,⟨⟨hk,hc,rfl,rfl⟩,hw3,hw⟩,by simp only [Tr.size];omega,?_,by omega⟩⟩
        ·simp only [bu]
         rw [cL (n:=(r3:Int)+(r2:Int)) (by omega) (by omega),cL (n:=(r3:Int)+(r2:Int)+1) (by omega) (by omega)]
         simp [hL,n2,n3]
        ·simp only [Tr.flat]
         rw [yI (by rw [hL.2];omega) (by rw [hL.1];omega)]
         have ht:N.take (q-1)=P++t.flat P.length:=by
          rw [hN2,Dq (by simp [t.flat_len];omega),sC (by simp [t.flat_len];omega)]
         have hP:P=N.take P.length:=by
          conv=>rhs;rw [hN2,jO,Dq (dY _),sC (dY _)]
         have hP3:P=P3++t3.flat P3.length:=by
          rw [hP]
          have:P.length=P3.length+t3.size:=by omega
          conv=>lhs;rw [this,hN3]
          rw [Dq (by simp [t3.flat_len]),sC (by simp [t3.flat_len])]
         have hPl:P.length=P3.length+t3.size:=by omega
         rw [ht,hPl]at hd
         rw [hP3]at hd
         simpa only [jO] using hd
       ·clear ih hN2 hN3
        refine⟨0,?_,.inl rfl⟩
        have:(n.R !=(q:Int)-1-1||n.L !=(q:Int)-1-1-(r2:Int))=true:=by
         rw [qO,rM,rM]
         by_cases hl:n.R=(q:Int)-1-1
         ·exact .inr fun h=>hL ⟨hl,h⟩
         ·exact .inl hl
        have h' :=this
        rw [qO,rM,rM]at h'
        simp [n2,n3]
        intro h1 h2
        exact absurd h2 (by rcases h' with h' |h';exact absurd h1 h';exact h')
theorem tL(e:bS):nX e=some (jd e.Nodes):=by
 unfold nX jd
 by_cases h:1≤e.Nodes.length∧e.Nodes.length≤1000
 ·rw [bk (by simp;omega),cL (by omega) (by omega)]
  unfold Aj
  obtain⟨k,h1,h2⟩:=TY e.Nodes (by omega) ir e.Nodes.length (dY _) (xq (xz _) (mR (by omega)))
  have h1' :iI ir e ((e.Nodes.length:Int)-1)=some (k:Int):=h1
  rw [h1']
  simp only [bu]
  congr 1
  rw [AE]
  constructor
  ·intro hk
   have hk' :k=e.Nodes.length:=by have:=eq_of_beq hk;omega
   rcases h2 with rfl|⟨t,P,R,hw,hs,hN,hl⟩
   ·omega
   ·have hP:P=[]:=uu (by omega)
    subst hP
    have hR:R=[]:=by
     have:=congrArg List.length hN
     simp [t.flat_len]at this
     exact uu (by omega)
    subst hR
    have hN' :e.Nodes=t.flat 0:=by simpa using hN
    rw [hN',JL hw (by omega)];rfl
  ·intro hi
   cases ht:mJ e.Nodes with
   |none=>rw [ht]at hi;cases hi
   |some t=>
    obtain⟨hw,hN,hs⟩:=kz ht
    have hlen:e.Nodes.length=t.size:=by rw [hN,t.flat_len]
    have h3:=TX t hw [] [] e.Nodes ir (by simpa using hN) (mR (by omega)) (by omega)
    simp only [pZ,ve]at h3
    rw [←hlen]at h3
    have h4:some (k:Int)=some (e.Nodes.length:Int):=h1.symm.trans h3
    simpa using h4
 ·rw [aX (by simp;omega)]
  simp only [bu]
  congr 1
  symm
  rw [sL]
  intro hi
  cases ht:mJ e.Nodes with
  |none=>rw [ht]at hi;cases hi
  |some t=>
   obtain⟨hw,hN,hs⟩:=kz ht
   have hlen:e.Nodes.length=t.size:=by rw [hN,t.flat_len]
   have:=t.size_pos
   omega
theorem ME(h:jd ns=true):1≤ns.length∧ns.length≤1000:=by
 unfold jd at h
 cases ht:mJ ns with
 |none=>rw [ht]at h;cases h
 |some t=>
  obtain⟨hw,hN,hs⟩:=kz ht
  have hlen:ns.length=t.size:=by rw [hN,t.flat_len]
  have:=t.size_pos
  omega

theorem Lm(p:List Int)(hp:p.length≤8000)(i:Nat)(y:List Int)(hy:i+y.length=p.length): ∀(k i1:Nat) (x:List Int) (x1:Nat),i1+k=y.length→0<i1→x.length=p.length→x1+1≤i+i1→x.drop (i+i1-1)=p.drop (i+i1-1)→
  eD i y k i1 x (x1:Int)=some (x.take x1++ud ((p[i+i1-1]?).getD 0) (p.drop (i+i1))):=by
 intro k
 induction k with
 |zero=>
  intro i1 x x1 h1 h0 hx h2 h3
  simp only [eD]
  have hx1:x1≤x.length:=by omega
  rw [lZ hx1 (dY _)]
  simp only [bu,xy,AH]
  rw [show((0:Int))=((0:Nat):Int)from rfl,lZ (mA _) (by simp;omega)]
  simp only [bu,xn]
  have hn:p.drop (i+i1)=[]:=Dp (by omega)
  rw [hn,BH,tu,Dq (by simp;omega),za,Nat.min_self]
 |succ k ih=>
  intro i1 x x1 h1 h0 hx h2 h3
  have e1:x[i+i1]? =p[i+i1]? :=by
   have:=congrArg (fun l:List Int=>l[1]?) h3
   simp only [xr]at this
   rwa [show i+i1-1+1=i+i1 from by omega]at this
  have e0:x[i+i1-1]? =p[i+i1-1]? :=by
   have:=congrArg (fun l:List Int=>l[0]?) h3
   simpa only [xr,y9] using this
  have hlt:i+i1<p.length:=by omega
  have g1:ya x (i:Int) y.length (i1:Int)=some p[i+i1]:=by
   unfold ya
   rw [bk (by omega),show(i:Int)+(i1:Int)=((i+i1:Nat):Int)from by omega,cC,e1,ph hlt]
  have g0:ya x (i:Int) y.length (IntKind.i64.wrap ((i1:Int)-1))=some p[i+i1-1]:=by
   rw [cL (by omega) (by omega)]
   unfold ya
   rw [bk (by omega),show(i:Int)+((i1:Int)-1)=((i+i1-1:Nat):Int)from by omega,cC,e0,ph (by omega)]
  have hd:p.drop (i+i1)=p[i+i1]::p.drop (i+i1+1):=xu hlt
  have hp1:(p[i+i1-1]?).getD 0=p[i+i1-1]:=by rw [ph (by omega)];rfl
  simp only [eD,g1,g0,bu]
  rw [hd,hp1]
  by_cases hx2:p[i+i1]=p[i+i1-1]
  ·rw [aX (by simp [hx2])]
   have h3' :x.drop (i+(i1+1)-1)=p.drop (i+(i1+1)-1):=by
    have:=congrArg (List.drop 1) h3
    rwa [oO,oO,show i+i1-1+1=i+(i1+1)-1 from by omega]at this
   rw [ih (i1+1) x x1 (by omega) (by omega) hx (by omega) h3']
   rw [yW hx2,show i+(i1+1)-1=i+i1 from by omega,ph hlt,show i+(i1+1)=i+i1+1 from by omega]
   rfl
  ·rw [bk (by simp [hx2]),cC,ph (by omega)]
   simp only [bu,AH]
   rw [cL (by omega) (by omega),show((x1:Int)+1)=((x1+1:Nat):Int)from by omega]
   have h3' :(x.set x1 p[i+i1]).drop (i+(i1+1)-1)=p.drop (i+(i1+1)-1):=by
    rw [List.drop_set_of_lt (by omega)]
    have:=congrArg (List.drop 1) h3
    rwa [oO,oO,show i+i1-1+1=i+(i1+1)-1 from by omega]at this
   rw [ih (i1+1) _ (x1+1) (by omega) (by omega) (by simpa using hx) (by omega) h3']
   rw [D1 hx2,show i+(i1+1)-1=i+i1 from by omega,ph hlt,show i+(i1+1)=i+i1+1 from by omega]
   have ht:(x.set x1 p[i+i1]).take (x1+1)=x.take x1++[p[i+i1]]:=by
    rw [Jy (by simp;omega),List.take_set_of_le (by omega)]
    simp
   rw [ht]
   simp
theorem Ln(p:List Int)(hp:p.length≤8000):km p=some (uS p):=by
 unfold km
 by_cases h2:p.length<2
 ·rw [bk (by simp;omega)]
  match p,h2 with
  |[],_=>rfl
  |[x],_=>rfl
 ·rw [aX (by simp;omega)]
  have key: ∀(l:List Int) (i:Nat),p.drop i=l→0<i→i≤p.length→uS p=p.take i++ud ((p[i-1]?).getD 0) (p.drop i)→fh p l i=some (uS p):=by
   intro l
   induction l with
   |nil=>
    intro i h1 h0 hle h3
    have:=HM.1 h1
    simp only [fh]
    rw [h3,h1,sC (by omega),BH,tu]
   |cons x t ih=>
    intro i h1 h0 hle h3
    have hi:i<p.length:=by
     rcases nL i p.length with h|h
     ·exact h
     ·rw [Dp h]at h1;cases h1
    have hx:x=p[i]:=by rw [xu hi]at h1;exact(Gu h1).1.symm
    have ht:p.drop (i+1)=t:=by rw [←oO,h1];rfl
    have hp1:(p[i-1]?).getD 0=p[i-1]:=by rw [ph (by omega)];rfl
    simp only [fh]
    rw [cL (by omega) (by omega),show(i:Int)-1=((i-1:Nat):Int)from by omega,cC,ph (by omega)]
    simp only [bu]
    by_cases he:x=p[i-1]
    ·rw [bk (by simp [he])]
     rw [lZ hle (dY _)]
     simp only [bu,xy]
     rw [Lm p hp i (p.drop i) (by simp;omega) _ 1 p i (by simp;omega) (by omega) rfl (by omega) (by simp)]
     rw [h3,h1,hp1,yW he,←ht,hx]
     rw [show i+1-1=i from by omega,ph hi];rfl
    ·rw [aX (by simp [he])]
     refine ih (i+1) ht (by omega) (by omega) ?_
     rw [h3,h1,hp1,D1 he,Jy hi,←ht,hx,show i+1-1=i from by omega,ph hi]
     rw [jO];rfl
  have hpc:p=p[0]::p.drop 1:=by
   have:=xu (l:=p) (i:=0) (by omega)
   simpa using this
  refine key (p.drop 1) 1 rfl (by omega) (by omega) ?_
  have e:(p[1-1]?).getD 0=p[0]:=by simp [ph (show 0<p.length by omega)]
  rw [e]
  conv=>lhs;rw [hpc]
  have e2:p.take 1=[p[0]]:=by
   conv=>lhs;rw [hpc]
   rfl
  rw [e2];rfl

theorem Qi(l:List Int)(z:Int):z∈sortI l↔z∈l:=by unfold sortI;simp
theorem AC: ∀(ns:List bC) (out:List Int),out.length+ns.length≤8000→ ∃cs,mY ns out=some cs∧ ∀c,c∈cs↔c∈out∨ ∃n∈ns,n.Tag=2∧n.Col=c
 |[],out,h=>by
  unfold mY Ep
  rw [bk (by simp at h;omega)]
  simp only [bu]
  rw [Ln _ (by rw [B7];simpa using h)]
  exact⟨_,rfl,fun c=>by rw [yN,Qi];simp⟩
 |n::ns,out,h=>by
  simp only [jf]at h
  unfold mY
  by_cases ht:n.Tag=2
  ·rw [bk (by simp [ht]),cJ (by simp;omega)]
   simp only [bu]
   obtain⟨cs,h1,h2⟩:=AC ns (out++[n.Col]) (by simp;omega)
   exact⟨cs,h1,fun c=>by rw [h2];simp [ht,or_assoc,eq_comm]⟩
  ·rw [aX (by simp [ht])]
   obtain⟨cs,h1,h2⟩:=AC ns out (by omega)
   exact⟨cs,h1,fun c=>by rw [h2];simp [ht]⟩
theorem Bw(e:bS)(h:jd e.Nodes=true): ∃cs,tm e=some cs∧ ∀c,c∈cs↔ ∃n∈e.Nodes,n.Tag=2∧n.Col=c:=by
 have hl:=ME h
 unfold tm
 rw [rJ e (by omega),h]
 obtain⟨cs,h1,h2⟩:=AC e.Nodes [] (by simp;omega)
 exact⟨cs,by simpa using h1,fun c=>by rw [h2];simp⟩
def kn(tag l r:Int):Int×Bool:=(jn tag l r).getD (0,false)
theorem zE(tag l r:Int):jn tag l r=some (kn tag l r):=by
 unfold kn jn iJ
 simp only [bu]
 repeat' split
 all_goals simp
def k4(k:Int):Prop:=k=0∨k=1∨k=2∨k=3
theorem WX(tag l r:Int):k4 (kn tag l r).1:=by
 unfold kn jn iJ
 simp only [bu]
 repeat' split
 all_goals simp [k4]
variable{kinds:List Int}
theorem NN(kinds:List Int)(n:bC)(x:Int)(hx:k4 x)(hk:pk n.Tag=some 1):jH kinds n [x]=some (if(kn n.Tag x 0).2 then((kn n.Tag x 0).1,0)else(0,201)):=by
 obtain⟨tag,L,R,col,v⟩:=n
 have ht:tag=4∨tag=5∨tag=6∨tag=7:=by
  unfold pk at hk
  repeat' split at hk
  all_goals simp at hk
  rename_i h
  have h:4≤tag∧tag≤7:=h
  omega
 rcases ht with rfl|rfl|rfl|rfl<;>rcases hx with rfl|rfl|rfl|rfl<;>rfl
theorem NM(kinds:List Int)(n:bC)(x y:Int)(hx:k4 x)(hy:k4 y)(hk:pk n.Tag=some 2):jH kinds n [x,y]=some (if(kn n.Tag x y).2 then((kn n.Tag x y).1,0)else(0,201)):=by
 obtain⟨tag,L,R,col,v⟩:=n
 have ht:tag=12∨tag=13∨tag=14∨tag=15∨tag=16∨tag=17∨tag=18∨tag=19∨tag=20∨tag=21∨tag=22∨tag=23:=by
  unfold pk at hk
  repeat' split at hk
  all_goals simp at hk
  rename_i h
  have h:12≤tag∧tag≤23:=h
  omega
 rcases ht with rfl|rfl|rfl|rfl|rfl|rfl|rfl|rfl|rfl|rfl|rfl|rfl<;>rcases hx with rfl|rfl|rfl|rfl<;>rcases hy with rfl|rfl|rfl|rfl<;>rfl
def kd(kinds:List Int):Tr→Option Int
 | .lf n=>if n.Tag=1 then some n.Value.Kind else some ((kinds[n.Col.toNat]?).getD 0)
 | .un n a=>(kd kinds a).bind fun x=>if(kn n.Tag x 0).2 then some (kn n.Tag x 0).1 else none
 | .bi n a b=>(kd kinds a).bind fun x=>(kd kinds b).bind fun y=>if(kn n.Tag x y).2 then some (kn n.Tag x y).1 else none
theorem Ow(kinds:List Int)(n:bC)(a:Tr):kd kinds (.un n a)=(kd kinds a).bind fun x=>if(kn n.Tag x 0).2 then some (kn n.Tag x 0).1 else none:=rfl
theorem KQ(kinds:List Int)(n:bC)(a b:Tr):kd kinds (.bi n a b)=(kd kinds a).bind fun x=>(kd kinds b).bind fun y=>if(kn n.Tag x y).2 then some (kn n.Tag x y).1 else none:=rfl
def Dg(m:Nat):Tr→Prop
 | .lf n=>n.Tag=2→n.Col<m
 | .un _ a=>Dg m a
 | .bi _ a b=>Dg m a∧Dg m b
theorem Zz(h:pk tag=some 0):tag=1∨tag=2:=by
 unfold pk at h
 repeat' split at h
 all_goals simp at h
 assumption
theorem pk2(h:pk tag=some k)(ht:tag=2):k=0:=by subst ht;simp [pk]at h;exact h.symm
theorem aaB(h:Jn n=true)(ht:n.Tag=1):mP n.Value=true:=by
 have h2:=jX n
 rw [h]at h2
 unfold lv at h2
 rw [bk (by simp [ht]),jD]at h2
 simp at h2
 exact h2.1
theorem Nu(h:Jn n=true)(ht:n.Tag=2):0≤n.Col∧n.Col<16:=by
 have h2:=jX n
 rw [h]at h2
 unfold lv at h2
 rw [aX (by simp [ht]),bk (by simp [ht])]at h2
 simp at h2
 exact⟨h2.1.2,h2.2⟩
theorem Ox(hk: ∀k∈kinds,k4 k): ∀(t:Tr),t.wf→ ∀{k},kd kinds t=some k→k4 k
 | .lf n,⟨h1,h2,_,_⟩,k,h=>by
  unfold kd at h
  split at h
  ·rename_i ht
   have:=Kk (aaB h2 ht)
   cases h;unfold k4;omega
  ·injection h with h
   subst h
   cases hc:kinds[n.Col.toNat]? with
   |none=>exact .inl rfl
   |some z=>exact hk z (sM hc)
 | .un n a,_,k,h=>by
  unfold kd at h
  cases ha:kd kinds a with
  |none=>rw [ha]at h;cases h
  |some x=>
   rw [ha,bu]at h
   split at h
   ·cases h;exact WX ..
   ·cases h
 | .bi n a b,_,k,h=>by
  unfold kd at h
  cases ha:kd kinds a with
  |none=>rw [ha]at h;cases h
  |some x=>
   cases hb:kd kinds b with
   |none=>rw [ha,hb]at h;cases h
   |some y=>
    rw [ha,hb]at h
    simp only [bu]at h
    split at h
    ·cases h;exact WX ..
    ·cases h
theorem MN(stack l:List Int)(h:stack.length+l.length≤100000):pf (stack++l) (l.length:Int)=some (l,stack):=by
 unfold pf cM
 have e:IntKind.i64.wrap (((stack++l).length:Int)-(l.length:Int))=(stack.length:Int):=by
  rw [jx,cL (by omega) (by omega)];omega
 rw [e,ma stack.length (stack++l).length rfl rfl (by simp) (dY _)]
 simp only [bu,xy,GH (dY _),List.drop_length,k7]
 rw [cJ (by simp;omega)]
 simp only [bu,k7]
 rw [ma (i:=0) 0 stack.length rfl rfl (mA _) (by simp)]
 simp
theorem Kp(stack:List Int){b:Int}(h:b≠0):mn b stack=some (0,b):=by
 unfold mn;rw [bk (by simpa using h)]
theorem nI(h:pk tag=some k):pE tag=some (k:Int):=by
 rw [zK];unfold Ig;rw [h]
theorem Qa(kinds:List Int)(hk: ∀k∈kinds,k4 k)(t:Tr):t.wf→Dg kinds.length t→ ∀(s:Nat) (rest:List bC) (stack:List Int),stack.length+t.size≤50000→
  ip (jH kinds) (t.flat s++rest) 0 stack=match kd kinds t with
   |some k=>ip (jH kinds) rest 0 (stack++[k])
   |none=>some (0,201):=by
 induction t with
 |lf n=>
  intro⟨h1,h2,h3,h4⟩ hc s rest stack hl
  simp only [Tr.flat,Tr.size,xo,k7]at hl ⊢
  rw [ip]
  have e1:(il n (-1) (-1)).Tag=n.Tag:=rfl
  rw [e1,nI h1]
  have h0:=MN stack [] (by simp;omega)
  simp only [tu,pZ]at h0
  simp only [bu]
  rw [h0]
  simp only [bu]
  have hv:jH kinds (il n (-1) (-1)) []=(kd kinds (.lf n)).map (fun k=>(k,(0:Int))):=by
   unfold jH mp kd
   simp only [e1]
   rcases Zz h1 with ht|ht
   ·rw [bk (by simp [ht]),bk ht];rfl
   ·rw [aX (by simp [ht]),bk (by simp [ht]),aX (by simp [ht])]
    have hb:=Nu h2 ht
    have hm:n.Col<kinds.length:=hc ht
    have e2:(il n (-1) (-1)).Col=n.Col:=rfl
    rw [e2,iA n.Col.toNat (by omega),ph (by omega)]
    rfl
  rw [hv]
  have: ∃k,kd kinds (.lf n)=some k:=by unfold kd;split<;>exact⟨_,rfl⟩
  obtain⟨k,hk1⟩:=this
  rw [hk1]
  simp only [Option.map_some,bu]
  rw [aX (by simp),cJ (by simp;omega)]
  rfl
 |un n a ih=>
  intro⟨⟨h1,h2,h3,h4⟩,ha⟩ hc s rest stack hl
  simp only [Tr.flat,Tr.size,jO]at hl ⊢
  rw [Ow,ih ha hc s _ stack (by omega)]
  cases hx:kd kinds a with
  |none=>rfl
  |some x=>
   have hx4:=Ox hk a ha hx
   simp only [bu,xo,k7]
   rw [ip]
   have e1:(il n (((s+a.size:Nat):Int)-1) (-1)).Tag=n.Tag:=rfl
   rw [e1,nI h1]
   have h0:=MN stack [x] (by simp;omega)
   simp only [bu]
   have e0:(([x]:List Int).length:Int)=((1:Nat):Int):=rfl
   rw [←e0,h0]
   simp only [bu]
   rw [NN kinds _ x hx4 (by rw [e1];exact h1),e1]
   cases hb:(kn n.Tag x 0).2 with
   |true=>
    simp only [fM,bu]
    rw [aX (by simp),cJ (by simp;omega)]
    rfl
   |false=>
    simp only [gL,eT,bu]
    rw [bk (by decide),Kp _ (by decide)]
 |bi n a b iha ihb=>
  intro⟨⟨h1,h2,h3,h4⟩,ha,hb⟩ ⟨hca,hcb⟩ s rest stack hl
  simp only [Tr.flat,Tr.size,jO]at hl ⊢
  rw [KQ,iha ha hca s _ stack (by omega)]
  cases hx:kd kinds a with
  |none=>rfl
  |some x=>
   have hx4:=Ox hk a ha hx
   simp only [bu]
   rw [ihb hb hcb (s+a.size) _ (stack++[x]) (by have:=a.size_pos;simp;omega)]
   cases hy:kd kinds b with
   |none=>rfl
   |some y=>
    have hy4:=Ox hk b hb hy
    have hap:=a.size_pos
    simp only [bu,xo,k7]
    rw [ip]
    have e1:(il n (((s+a.size:Nat):Int)-1) (((s+a.size+b.size:Nat):Int)-1)).Tag=n.Tag:=rfl
    rw [e1,nI h1]
    have h0:=MN stack [x,y] (by simp;omega)
    simp only [bu]
    have e0:(([x,y]:List Int).length:Int)=((2:Nat):Int):=rfl
    have e9:stack++[x]++[y]=stack++[x,y]:=by simp
    rw [←e0,e9,h0]
    simp only [bu]
    rw [NM kinds _ x y hx4 hy4 (by rw [e1];exact h1),e1]
    cases hb:(kn n.Tag x y).2 with
    |true=>
     simp only [fM,bu]
     rw [aX (by simp),cJ (by simp;omega)]
     rfl
    |false=>
     simp only [gL,eT,bu]
     rw [bk (by decide),Kp _ (by decide)]
theorem Rt(kinds:List Int)(hk: ∀k∈kinds,k4 k)(t:Tr):t.wf→Dg kinds.length t→ ∀(rest:List bC) (own:List Int),own.length+t.size≤50000→
  (kd kinds t=none∧dE kinds (t.flat own.length++rest) own=some (0,201))∨
  (∃k w,kd kinds t=some k∧w.length+1=t.size∧dE kinds (t.flat own.length++rest) own=dE kinds rest (own++w++[k])):=by
 induction t with
 |lf n=>
  intro⟨h1,h2,h3,h4⟩ hc rest own hl
  simp only [Tr.flat,Tr.size,xo,k7]at hl ⊢
  refine .inr ?_
  have e1:(il n (-1) (-1)).Tag=n.Tag:=rfl
  unfold kd
  rcases Zz h1 with ht|ht
  ·refine⟨_,[],bk ht,rfl,?_⟩
   rw [dE]
   rw [e1,bk (by simp [ht]),cJ (by simp;omega)]
   simp only [bu,tu]
   rfl
  ·refine⟨_,[],aX (by simp [ht]),rfl,?_⟩
   have hb:=Nu h2 ht
   have hm:n.Col<kinds.length:=hc ht
   have e2:(il n (-1) (-1)).Col=n.Col:=rfl
   rw [dE]
   rw [e1,aX (by simp [ht]),bk (by simp [ht]),e2,iA n.Col.toNat (by omega),ph (by omega)]
   simp only [bu,tu,GA]
   rw [cJ (by simp;omega)]
   rfl
 |un n a ih=>
  intro⟨⟨h1,h2,h3,h4⟩,ha⟩ hc rest own hl
  have hap:=a.size_pos
  simp only [Tr.flat,Tr.size,jO]at hl ⊢
  rcases ih ha hc ([il n (((own.length+a.size:Nat):Int)-1) (-1)]++rest) own (by omega)with⟨hx,he⟩|⟨x,w,hx,hw,he⟩
  ·exact .inl ⟨by rw [Ow,hx];rfl,by rw [he]⟩
  ·rw [he]
   rw [Ow,hx]
   simp only [bu,xo,k7]
   have e1:(il n (((own.length+a.size:Nat):Int)-1) (-1)).Tag=n.Tag:=rfl
   have n1:n.Tag≠1:=fun h=>by rw [h]at h1;simp [pk]at h1
   have n2:n.Tag≠2:=fun h=>by rw [h]at h1;simp [pk]at h1
   have hstep:dE kinds (il n (((own.length+a.size:Nat):Int)-1) (-1)::rest) (own++w++[x])=if(kn n.Tag x 0).2 then dE kinds rest (own++w++[x]++[(kn n.Tag x 0).1])else some (0,201):=by
    rw [dE]
    rw [e1,aX (by simpa using n1),aX (by simpa using n2)]
    have eL:(il n (((own.length+a.size:Nat):Int)-1) (-1)).L=((own.length+a.size:Nat):Int)-1:=rfl
    have eR:(il n (((own.length+a.size:Nat):Int)-1) (-1)).R= -1:=rfl
    rw [eL,eR,iA (own++w).length (by simp;omega),uX (dY _),zT]
    simp only [F0,bu]
    rw [aX (by decide)]
    unfold rA
    rw [e1,zE]
    simp only [bu]
    cases hb:(kn n.Tag x 0).2 with
    |true=>
     simp only [nh,gL,eT,fM]
     rw [cJ (by simp;omega)];rfl
    |false=>rfl
   rw [hstep]
   cases hb:(kn n.Tag x 0).2 with
   |true=>exact .inr ⟨(kn n.Tag x 0).1,w++[x],by simp,by simp;omega,by simp⟩
   |false=>exact .inl ⟨by simp,by simp⟩
 |bi n a b iha ihb=>
  intro⟨⟨h1,h2,h3,h4⟩,ha,hb⟩ ⟨hca,hcb⟩ rest own hl
  have hap:=a.size_pos
  have hbp:=b.size_pos
  simp only [Tr.flat,Tr.size,jO]at hl ⊢
  obtain⟨m,hm⟩: ∃m,m=il n (((own.length+a.size:Nat):Int)-1) (((own.length+a.size+b.size:Nat):Int)-1):=⟨_,rfl⟩
  rw [←hm]
  rcases iha ha hca (b.flat (own.length+a.size)++([m]++rest)) own (by omega)with⟨hx,he⟩|⟨x,w,hx,hw,he⟩
  ·exact .inl ⟨by rw [KQ,hx];rfl,by rw [he]⟩
  ·rw [he]
   have hl2:(own++w++[x]).length=own.length+a.size:=by simp;omega
   rw [←hl2]
   rcases ihb hb hcb ([m]++rest) (own++w++[x]) (by rw [hl2];omega)with⟨hy,he2⟩|⟨y,w2,hy,hw2,he2⟩
   ·exact .inl ⟨by rw [KQ,hx,hy];rfl,by rw [he2]⟩
   ·rw [he2]
    rw [KQ,hx,hy]
    simp only [bu,xo,k7]
    have e1:m.Tag=n.Tag:=by rw [hm];rfl
    have eL:m.L=((own.length+a.size:Nat):Int)-1:=by rw [hm];rfl
    have eR:m.R=((own.length+a.size+b.size:Nat):Int)-1:=by rw [hm];rfl
    have n1:n.Tag≠1:=fun h=>by rw [h]at h1;simp [pk]at h1
    have n2:n.Tag≠2:=fun h=>by rw [h]at h1;simp [pk]at h1
    have hstep:dE kinds (m::rest) (own++w++[x]++w2++[y])=if(kn n.Tag x y).2 then dE kinds rest (own++w++[x]++w2++[y]++[(kn n.Tag x y).1])else some (0,201):=by
     rw [dE]
     rw [e1,aX (by simpa using n1),aX (by simpa using n2)]
     rw [eL,eR,iA (own++w).length (by simp;omega)]
     have g1:(own++w++[x]++w2++[y])[(own++w).length]? =some x:=by
      rw [jO,jO,uX (dY _),zT];rfl
     rw [g1]
     simp only [bu]
     rw [bk (by rw [lX];omega),iA (own++w++[x]++w2).length (by simp;omega)]
     have g2:(own++w++[x]++w2++[y])[(own++w++[x]++w2).length]? =some y:=by
      rw [uX (dY _),zT];rfl
     rw [g2]
     simp only [bu]
     unfold rA
     rw [e1,zE]
     simp only [bu]
     cases hb:(kn n.Tag x y).2 with
     |true=>
      simp only [nh,gL,eT,fM]
      rw [cJ (by simp;omega)];rfl
     |false=>rfl
    rw [hstep]
    cases hb:(kn n.Tag x y).2 with
    |true=>exact .inr ⟨(kn n.Tag x y).1,w++[x]++w2++[y],by simp,by simp;omega,by simp⟩
    |false=>exact .inl ⟨by simp,by simp⟩
def rp(m:Nat)(ns:List bC):Bool:=ns.all fun n=> !((n.Tag==2)&&decide ((m:Int)≤n.Col))
theorem Lo(m:Nat)(n:bC)(ns:List bC):rp m (n::ns)=(!((n.Tag==2)&&decide ((m:Int)≤n.Col))&&rp m ns):=rfl
theorem ym(m:Nat)(t:Tr):t.wf→ ∀s,rp m (t.flat s)=true→Dg m t:=by
 induction t with
 |lf n=>
  intro _ s h ht
  simp only [rp,Tr.flat,zU,List.all_nil,zq]at h
  have e1:(il n (-1) (-1)).Tag=n.Tag:=rfl
  have e2:(il n (-1) (-1)).Col=n.Col:=rfl
  simp [e1,e2,ht]at h
  exact h
 |un n a ih=>
  intro⟨_,ha⟩ s h
  simp only [rp,Tr.flat,List.all_append,mz]at h
  exact ih ha s h.1
 |bi n a b iha ihb=>
  intro⟨_,ha,hb⟩ s h
  simp only [rp,Tr.flat,List.all_append,mz]at h
  exact⟨iha ha s h.1.1,ihb hb _ h.1.2⟩
def zj(kinds:List Int):Bool:=kinds.all fun k=>decide (0≤k)&&decide (k≤3)
theorem Bh(k:Int)(ks:List Int):zj (k::ks)=((decide (0≤k)&&decide (k≤3))&&zj ks):=rfl
theorem yP(h:zj kinds=true){k:Int}(hk:k∈kinds):k4 k:=by
 have:=ki.1 h k hk
 simp at this
 unfold k4;omega
def gc(e:bS)(kinds:List Int):Int×Int:=
 if jd e.Nodes then if zj kinds then if rp kinds.length e.Nodes then match (mJ e.Nodes).bind (kd kinds)with
  |some k=>(k,0)
  |none=>(0,201)else(0,2)else(0,2)else(0,200)
theorem FL(e:bS)(kinds:List Int): ∀cs:List Int,mX e kinds cs=if cs.all (fun c=>decide (c<(kinds.length:Int)))then o5 e (jH kinds)else some (0,2)
 |[]=>by
  unfold mX
  cases o5 e (jH kinds)<;>rfl
 |c::cs=>by
  unfold mX
  rw [FL e kinds cs]
  by_cases h:(kinds.length:Int)≤c
  ·rw [bk (by simpa using h),aX (by simp;omega)]
  ·rw [aX (by simpa using h)]
   have:c<(kinds.length:Int):=by omega
   simp [this]
theorem wH(e:bS)(kinds:List Int)(hl:e.Nodes.length≤50000):th e kinds=some (gc e kinds):=by
 unfold th gc
 rw [rJ e (by omega)]
 cases hr:jd e.Nodes with
 |false=>rfl
 |true=>
  simp only [fM,bu]
  rw [aX (by decide)]
  have key: ∀ks:List Int,qx e kinds ks=if zj ks then(tm e).bind (mX e kinds)else some (0,2):=by
   intro ks
   induction ks with
   |nil=>rfl
   |cons k ks ih=>
    unfold qx
    rw [ih]
    by_cases h:k<0∨3<k
    ·rw [bk (by simpa using h),aX (by simp [zj];omega)]
    ·rw [aX (by simpa using h)]
     have h1:(decide (0≤k)&&decide (k≤3))=true:=by simp;omega
     rw [Bh,h1,vg]
  rw [key]
  cases hk:zj kinds with
  |false=>rfl
  |true=>
   simp only [fM]
   obtain⟨cs,h1,h2⟩:=Bw e hr
   rw [h1,bu,FL]
   have hci:cs.all (fun c=>decide (c<(kinds.length:Int)))=rp kinds.length e.Nodes:=by
    rw [AE]
    simp only [ki,lX,rp,Dn,Bool.and_eq_false_iff,beq_eq_false_iff_ne,FZ]
    constructor
    ·intro h n hn
     by_cases ht:n.Tag=2
     ·exact .inr (by have:=h _ ((h2 n.Col).2 ⟨n,hn,ht,rfl⟩);omega)
     ·exact .inl ht
    ·intro h c hc
     obtain⟨n,hn,ht,rfl⟩:=(h2 c).1 hc
     rcases h n hn with h|h
     ·exact absurd ht h
     ·omega
   rw [hci]
   cases hc:rp kinds.length e.Nodes with
   |false=>rfl
   |true=>
    simp only [fM]
    cases ht:mJ e.Nodes with
    |none=>unfold jd at hr;rw [ht]at hr;cases hr
    |some t=>
     obtain⟨hw,hN,hs⟩:=kz ht
     have hct:=ym kinds.length t hw 0 (by rw [←hN];exact hc)
     have:=Qa kinds (fun k=>yP hk) t hw hct 0 [] [] (by simp;omega)
     rw [tu,←hN]at this
     unfold o5
     rw [this]
     simp only [bu]
     cases kd kinds t with
     |none=>rfl
     |some k=>rfl
theorem lM(e:bS)(kinds:List Int):tM e kinds=some (gc e kinds):=by
 unfold tM gc
 rw [tL e]
 cases hr:jd e.Nodes with
 |false=>rfl
 |true=>
  simp only [fM,bu,nh,gL,eT]
  have key2: ∀ns:List bC,oX e kinds ns=if rp kinds.length ns then dE kinds e.Nodes []else some (0,2):=by
   intro ns
   induction ns with
   |nil=>rfl
   |cons n ns ih=>
    unfold oX
    rw [ih,Lo]
    cases ((n.Tag==2)&&decide ((kinds.length:Int)≤n.Col))<;>simp
  have key: ∀ks:List Int,rz e kinds ks=if zj ks then oX e kinds e.Nodes else some (0,2):=by
   intro ks
   induction ks with
   |nil=>rfl
   |cons k ks ih=>
    unfold rz
    rw [ih]
    by_cases h:k<0∨3<k
    ·rw [bk (by simpa using h),aX (by simp [zj];omega)]
    ·rw [aX (by simpa using h)]
     have h1:(decide (0≤k)&&decide (k≤3))=true:=by simp;omega
     rw [Bh,h1,vg]
  rw [key,key2]
  cases hk:zj kinds with
  |false=>rfl
  |true=>
   cases hc:rp kinds.length e.Nodes with
   |false=>rfl
   |true=>
    simp only [fM]
    cases ht:mJ e.Nodes with
    |none=>unfold jd at hr;rw [ht]at hr;cases hr
    |some t=>
     obtain⟨hw,hN,hs⟩:=kz ht
     have hct:=ym kinds.length t hw 0 (by rw [←hN];exact hc)
     have:=Rt kinds (fun k=>yP hk) t hw hct [] [] (by simp;omega)
     rw [tu,pZ,←hN]at this
     simp only [bu]
     rcases this with⟨h1,h2⟩|⟨k,w,h1,h2,h3⟩
     ·rw [h1,h2]
     ·rw [h1,h3]
      unfold dE
      have hls:t.size≤1000:=hs
      rw [k7,iA w.length (by rw [cL (by simp<;>omega) (by simp<;>omega)];simp),uX (dY _),zT]
      rfl
def Zt(n:bC):Bool:=n.Tag==4||decide (12≤n.Tag)&&decide (n.Tag≤15)

def zV:ac:=⟨0,0,0,[]⟩
def bV(b:Bool):ac:=⟨1,if b then 1 else 0,0,[]⟩
def iV(n:Int):ac:=⟨2,n,0,[]⟩
def sV(s:xc):ac:=⟨3,0,0,s⟩
def r64(n:Int):Prop:= -9223372036854775808≤n∧n≤9223372036854775807
inductive Pl:ac→Prop
 |z:Pl zV
 |b (b:Bool):Pl (bV b)
 |i (n:Int) (h:r64 n):Pl (iV n)
 |s (s:xc) (h:s.length≤40):Pl (sV s)
theorem Pl.plain(h:Pl v):mP v=true:=by
 cases h with
 |z=>rfl
 |b b=>cases b<;>rfl
 |i n h=>simp [mP,fG,dw,iV]
 |s s h=>
  have h' :(s.length:Int)≤40:=by omega
  simp [mP,fG,dw,sV,h']
theorem Pl.right(h:Pl v):fG v=true:=by
 have:=h.plain
 unfold mP at this
 rw [mz]at this
 exact this.1
theorem EO(h:mP v=true)(hr:r64 v.N):Pl v:=by
 obtain⟨k,n,u,s⟩:=v
 unfold mP fG dw at h
 simp only [mz,rM,pG]at h
 obtain⟨h1,h2⟩:=h
 by_cases k0:k=0
 ·subst k0
  simp at h1
  rw [show(⟨0,n,u,s⟩:ac)=zV from by simp only [zV];simp [h1]]
  exact .z
 by_cases k1:k=1
 ·subst k1
  simp at h1
  obtain⟨⟨rfl,rfl⟩,h1⟩:=h1
  rcases h1 with rfl|rfl
  ·exact .b false
  ·exact .b true
 by_cases k2:k=2
 ·subst k2
  simp at h1
  obtain⟨rfl,rfl⟩:=h1
  exact .i n hr
 by_cases k3:k=3
 ·subst k3
  simp at h1
  obtain⟨⟨rfl,rfl⟩,h1⟩:=h1
  exact .s s (by omega)
 simp [k0,k1,k2,k3,h2]at h1
theorem Pl.r64(h:Pl v):r64 v.N:=by
 cases h with
 |z=>exact⟨by decide,by decide⟩
 |b b=>cases b<;>exact⟨by decide,by decide⟩
 |i n h=>exact h
 |s s h=>exact⟨by simp [sV],by simp [sV]⟩
theorem Pl.check(h:Pl v):ln v=some 0:=by rw [nU,h.right];rfl
theorem Pl.plain_eq(h:Pl v):mC v=some true:=by rw [tB,h.plain]
theorem Rr{b:ac}(ha:Pl a)(hb:Pl b):pJ [a,b]=some 0:=by
 unfold pJ jC jC jC
 simp [ha.check,hb.check]
theorem Ly{b:ac}(ha:Pl a)(hb:Pl b)(to:Int→Int→Option (Int×Bool)):sq a b to=
  if(a.Kind=0∨a.Kind=2)∧(b.Kind=0∨b.Kind=2)then(if a.Kind=0∨b.Kind=0 then some (zV,0)else(to a.N b.N).bind fun r=>if r.2 then some (iV r.1,0)else some (zV,140))else some (zV,2):=by
 unfold sq pV kw kw kw
 simp only [ha.check,hb.check,bu]
 cases ha<;>cases hb<;>simp [zV,bV,iV,sV,pm,oA]
 congr 1
 funext r
 cases r.2<;>rfl
inductive Tu:ac→Prop
 |z:Tu zV
 |b (b:Bool):Tu (bV b)
theorem Tu.pl(h:Tu v):Pl v:=by cases h;exact .z;exact .b _
theorem ji(h:Pl v):Tu v↔v.Kind≤1:=by
 constructor
 ·intro h;cases h<;>simp [zV,bV]
 ·intro hk
  cases h with
  |z=>exact .z
  |b b=>exact .b b
  |i n h=>simp [iV]at hk
  |s s h=>simp [sV]at hk
def tn(v:ac):Int:=if v.Kind=0 then 1 else 2*v.N
def tv(n:Int):ac:=if n=0 then bV false else if n=1 then zV else bV true
theorem Rc(h:Tu v):tn v=0∨tn v=1∨tn v=2:=by
 cases h with
 |z=>exact .inr (.inl rfl)
 |b b=>cases b;exact .inl rfl;exact .inr (.inr rfl)
theorem Ef(h:Tu v):xD v=some (tn v):=by
 cases h with
 |z=>rfl
 |b b=>cases b<;>rfl
theorem Ra{n:Int}(h:n=0∨n=1∨n=2):Tu (tv n):=by
 rcases h with rfl|rfl|rfl
 ·exact .b false
 ·exact .z
 ·exact .b true
theorem MX(h:Pl v)(hn: ¬Tu v):decide (1<v.Kind)=true:=by
 rw [ji h]at hn;simp;omega
theorem aaa(h:Tu v):decide (1<v.Kind)=false:=by
 have:=(ji h.pl).1 h;simp;omega
def Fz(a b:ac):ac:=tv (min (tn a) (tn b))
def TF(a b:ac):ac:=tv (max (tn a) (tn b))
def Gl(a:ac):ac:=tv (2-tn a)
theorem HU{b:ac}(ha:Tu a)(hb:Tu b):s8 a b=some (Fz a b,0):=by
 cases ha with
 |z=>cases hb with
  |z=>rfl
  |b b=>cases b<;>rfl
 |b x=>cases hb with
  |z=>cases x<;>rfl
  |b b=>cases x<;>cases b<;>rfl
theorem JI{b:ac}(ha:Tu a)(hb:Tu b):vo a b=some (TF a b,0):=by
 cases ha with
 |z=>cases hb with
  |z=>rfl
  |b b=>cases b<;>rfl
 |b x=>cases hb with
  |z=>cases x<;>rfl
  |b b=>cases x<;>cases b<;>rfl
theorem AS(ha:Tu a):qT a=some (Gl a,0):=by
 cases ha with
 |z=>rfl
 |b x=>cases x<;>rfl
theorem E3{b:ac}(ha:Pl a)(hb:Pl b)(h: ¬(Tu a∧Tu b))(to:List Int→Option Int):nS to [a,b]=some (zV,2):=by
 unfold nS
 rw [Rr ha hb]
 simp only [bu]
 rw [aX (by decide)]
 unfold lY
 by_cases h1:Tu a
 ·have h2: ¬Tu b:=fun k=>h ⟨h1,k⟩
  rw [aaa h1]
  simp only [gL,eT,Ef h1,bu]
  rw [cJ (by simp)]
  simp only [bu]
  unfold lY
  rw [MX hb h2,bk rfl];rfl
 ·rw [MX ha h1,bk rfl];rfl
theorem F4(ha:Pl a)(h: ¬Tu a):qT a=some (zV,2):=by
 unfold qT nS pJ jC jC
 rw [ha.check]
 simp only [bu]
 rw [aX (by decide)]
 unfold lY
 simp only [bu]
 rw [aX (by decide),MX ha h,bk rfl];rfl
def Fs(a b:ac):Int:=(lG a b).getD 0
theorem B3{b:ac}(ha:Pl a)(hb:Pl b):lG a b=some (Fs a b):=by
 unfold Fs
 have: ∃c,lG a b=some c:=by
  unfold lG
  rw [ha.plain_eq,hb.plain_eq]
  simp only [bu,nh,xw,fM,eT]
  unfold ja nJ gU lh o9 jp
  simp only [zr,bu,gL,eT]
  have h1: ∀x y:Int,∃c,(if decide (x<y)=true then some (-1:Int)else if decide (y<x)=true then some 1 else some 0)=some c:=by
   intro x y;repeat' split
   all_goals exact⟨_,rfl⟩
  obtain⟨c1,e1⟩:=h1 a.Kind b.Kind
  obtain⟨c2,e2⟩:=h1 a.N b.N
  rw [e1,e2]
  simp only [bu]
  unfold m6 gx gx gx gx
  repeat' split
  all_goals exact⟨_,rfl⟩
 obtain⟨c,h⟩:=this
 rw [h];rfl
theorem Uy{b:ac}(ha:Pl a)(hb:Pl b){is:Int→Option Bool}{f:Int→Bool}(hf: ∀c,is c=some (f c)):qS a b is=
  some (if a.Kind=0∨b.Kind=0 then(zV,0)else if a.Kind=b.Kind then(bV (f (Fs a b)),0)else(zV,2)):=by
 unfold qS
 rw [Rr ha hb]
 simp only [bu,B3 ha hb,hf,pm]
 have hbv: ∀x,pn x=some (bV x):=fun x=>by cases x<;>rfl
 simp only [hbv,bu]
 cases ha<;>cases hb<;>simp [zV,bV,iV,sV]

def BD:List (Int×(ac→ac→Option (ac×Int))):=(yU).getD []
theorem I7:yU=some BD:=rfl
def We(tag:Int):ac→ac→Option (ac×Int):=(pw BD tag).getD (fun _ _=>none)
theorem dz4:We 4=mW yY:=rfl
theorem dz5:We 5=mW qT:=rfl
theorem dz6:We 6=oj true:=rfl
theorem dz7:We 7=oj false:=rfl
theorem acY:We 20=lQ nT:=rfl
theorem acX:We 22=s8:=rfl
theorem acW:We 23=vo:=rfl
def Nz(tag x y:Int):Int×Bool:=(if tag=12 then sr x y else if tag=13 then pW x y else if tag=14 then mF x y else mG x y).getD (0,false)
theorem o0(n:Int):r64 (IntKind.i64.wrap n):=by rw [v6];unfold r64;omega
theorem GJ{n:Int}(h:0≤n)(h2:n<18446744073709551616):IntKind.u64.wrap n=n:=by rw [ur];omega
theorem uz(n:Int)(h:r64 n):pF n=some (n.natAbs:Int):=by
 unfold r64 at h
 unfold pF
 by_cases hn:n<0
 ·rw [bk (by simpa using hn),ur,ur]
  congr 1;omega
 ·rw [aX (by simpa using hn),ur]
  congr 1;omega
theorem XJ(tag x y:Int)(hx:r64 x)(hy:r64 y):(if tag=12 then sr x y else if tag=13 then pW x y else if tag=14 then mF x y else mG x y)=some (Nz tag x y)∧r64 (Nz tag x y).1:=by
 unfold Nz
 split
 ·exact⟨rfl,o0 _⟩
 ·split
  ·exact⟨rfl,o0 _⟩
  ·split
   ·unfold mF nl m9
    simp only [uz x hx,uz y hy,bu]
    split
    ·exact⟨rfl,o0 _⟩
    ·exact⟨rfl,o0 _⟩
   ·unfold mG
    by_cases h0:y=0
    ·subst h0;exact⟨rfl,show r64 0 from⟨by decide,by decide⟩⟩
    ·rw [aX (by simpa using h0)]
     simp only [uz x hx,uz y hy,bu]
     have hn:nz ((y.natAbs:Nat):Int)=some ():=by
      unfold nz
      rw [aX (by omega)]
     rw [hn]
     unfold m9
     simp only [bu]
     split
     ·exact⟨rfl,o0 _⟩
     ·exact⟨rfl,o0 _⟩
def xk(tag:Int)(a b:ac):ac×Int:=
 if(a.Kind=0∨a.Kind=2)∧(b.Kind=0∨b.Kind=2)then(if a.Kind=0∨b.Kind=0 then(zV,0)else if(Nz tag a.N b.N).2 then(iV (Nz tag a.N b.N).1,0)else(zV,140))else(zV,2)
def fb(f:Int→Bool)(a b:ac):ac×Int:=if a.Kind=0∨b.Kind=0 then(zV,0)else if a.Kind=b.Kind then(bV (f (Fs a b)),0)else(zV,2)
def EX(q:ac×Int):ac×Int:=if q.2=0 then(Gl q.1,0)else q
def Ce(tag:Int)(a b:ac):ac×Int:=
 if tag=4 then xk 13 (iV 0) a else
 if tag=5 then(if a.Kind≤1 then(Gl a,0)else(zV,2))else
 if tag=6 then(bV (a.Kind==0),0)else
 if tag=7 then(bV (a.Kind !=0),0)else
 if tag≤15 then xk tag a b else
 if tag=16 then fb (fun c=>c==0) a b else
 if tag=17 then EX (fb (fun c=>c==0) a b)else
 if tag=18 then fb (fun c=>decide (c<0)) a b else
 if tag=19 then EX (fb (fun c=>decide (c<0)) b a)else
 if tag=20 then fb (fun c=>decide (c<0)) b a else
 if tag=21 then EX (fb (fun c=>decide (c<0)) a b)else
 if tag=22 then(if a.Kind≤1∧b.Kind≤1 then(Fz a b,0)else(zV,2))else
 (if a.Kind≤1∧b.Kind≤1 then(TF a b,0)else(zV,2))
theorem sj(f:Int→Bool)(a b:ac):(fb f a b).2=0→Tu (fb f a b).1:=by
 unfold fb
 split
 ·intro _;exact .z
 ·split
  ·intro _;exact .b _
  ·intro h;cases h
theorem Cl(f:Int→Bool)(a b:ac):(fb f a b).2≠0→fb f a b=(zV,2):=by
 unfold fb
 split
 ·intro h;exact absurd rfl h
 ·split
  ·intro h;exact absurd rfl h
  ·intro _;rfl
theorem EV{do1:ac→ac→Option (ac×Int)}{b:ac}{f:Int→Bool}{x y:ac}(h:do1 a b=some (fb f x y)):ub do1 a b=some (EX (fb f x y)):=by
 unfold ub EX
 rw [h]
 simp only [bu]
 by_cases h0:(fb f x y).2=0
 ·rw [aX (by simp [h0]),bk h0,AS (sj f x y h0)];rfl
 ·rw [bk (by simpa using h0),aX h0]
theorem Fw{b:ac}(ha:Pl a)(hb:Pl b){to:Int→Int→Option (Int×Bool)}(h: ∀x y,to x y=if tag=12 then sr x y else if tag=13 then pW x y else if tag=14 then mF x y else mG x y):
  (sq a b to).bind (fun r=>some (r.1,r.2))=some (xk tag a b):=by
 rw [Ly ha hb]
 unfold xk
 split
 ·split
  ·rfl
  ·rw [h,(XJ tag a.N b.N ha.r64 hb.r64).1]
   simp only [bu]
   split<;>rfl
 ·rfl
theorem G8{b:ac}(ha:Pl a)(hb:Pl b){is:Int→Option Bool}{f:Int→Bool}(hf: ∀c,is c=some (f c)):(qS a b is).bind (fun r=>some (r.1,r.2))=some (fb f a b):=by
 rw [Uy ha hb hf];rfl
theorem xF{b:ac}(ha:Pl a)(hb:Pl b):rO a b=some (fb (fun c=>c==0) a b):=G8 ha hb fun _=>rfl
theorem ru{b:ac}(ha:Pl a)(hb:Pl b):nT a b=some (fb (fun c=>decide (c<0)) a b):=G8 ha hb fun _=>rfl
theorem Rx(h:pk tag=some k)(hk:k≠0):tag=4∨tag=5∨tag=6∨tag=7∨tag=12∨tag=13∨tag=14∨tag=15∨tag=16∨tag=17∨tag=18∨tag=19∨tag=20∨tag=21∨tag=22∨tag=23:=by
 unfold pk at h
 repeat' split at h
 all_goals simp at h
 ·exact absurd h.symm hk
 all_goals omega
theorem Zj(h:pk tag=some k)(hk:k≠0){b:ac}(ha:Pl a)(hb:Pl b):We tag a b=some (Ce tag a b):=by
 have hbv: ∀x,pn x=some (bV x):=fun x=>by cases x<;>rfl
 rcases Rx h hk with rfl|rfl|rfl|rfl|rfl|rfl|rfl|rfl|rfl|rfl|rfl|rfl|rfl|rfl|rfl|rfl
 ·rw [dz4];unfold mW yY oA
  simp only [bu]
  have:=Fw (tag:=13) (Pl.i 0 ⟨by decide,by decide⟩) ha (to:=pW) (fun _ _=>rfl)
  have h2:vR (iV 0) a=some (xk 13 (iV 0) a):=this
  rw [show(⟨2,0,0,[]⟩:ac)=iV 0 from rfl,h2];rfl
 ·rw [dz5];unfold mW Ce
  rw [aX (by decide),bk rfl]
  by_cases ht:Tu a
  ·rw [AS ht,bk ((ji ha).1 ht)];rfl
  ·rw [F4 ha ht,aX (fun h=>ht ((ji ha).2 h))];rfl
 ·rw [dz6];unfold oj
  rw [hbv]
  simp only [bu]
  unfold Ce
  rw [aX (by decide),aX (by decide),bk rfl]
  cases hx:(a.Kind==0)<;>rfl
 ·rw [dz7];unfold oj
  rw [hbv]
  simp only [bu]
  unfold Ce
  rw [aX (by decide),aX (by decide),aX (by decide),bk rfl]
  simp only [bne]
  cases hx:(a.Kind==0)<;>rfl
 ·exact Fw (tag:=12) ha hb fun _ _=>rfl
 ·exact Fw (tag:=13) ha hb fun _ _=>rfl
 ·exact Fw (tag:=14) ha hb fun _ _=>rfl
 ·exact Fw (tag:=15) ha hb fun _ _=>rfl
 ·exact xF ha hb
 ·exact EV (xF ha hb)
 ·exact ru ha hb
 ·exact EV (do1:=lQ nT) (by unfold lQ;rw [ru hb ha];rfl)
 ·rw [acY];unfold lQ;rw [ru hb ha];rfl
 ·exact EV (ru ha hb)
 ·rw [acX]
  show _=some (if a.Kind≤1∧b.Kind≤1 then(Fz a b,0)else(zV,2))
  by_cases ht:Tu a∧Tu b
  ·rw [HU ht.1 ht.2,bk ⟨(ji ha).1 ht.1,(ji hb).1 ht.2⟩]
  ·rw [aX (fun h=>ht ⟨(ji ha).2 h.1,(ji hb).2 h.2⟩)]
   unfold s8
   rw [E3 ha hb ht];rfl
 ·rw [acW]
  show _=some (if a.Kind≤1∧b.Kind≤1 then(TF a b,0)else(zV,2))
  by_cases ht:Tu a∧Tu b
  ·rw [JI ht.1 ht.2,bk ⟨(ji ha).1 ht.1,(ji hb).1 ht.2⟩]
  ·rw [aX (fun h=>ht ⟨(ji ha).2 h.1,(ji hb).2 h.2⟩)]
   unfold vo
   rw [E3 ha hb ht];rfl
theorem Zs{b:ac}(ha:Pl a)(hb:Pl b):(xk tag a b).2=0→Pl (xk tag a b).1:=by
 unfold xk
 split
 ·split
  ·intro _;exact .z
  ·split
   ·intro _;exact .i _ (XJ tag a.N b.N ha.r64 hb.r64).2
   ·intro h;cases h
 ·intro h;cases h
theorem Wv(tag:Int)(a b:ac):(xk tag a b).2≠0→xk tag a b=(zV,140)∨xk tag a b=(zV,2):=by
 unfold xk
 split
 ·split
  ·intro h;exact absurd rfl h
  ·split
   ·intro h;exact absurd rfl h
   ·intro _;exact .inl rfl
 ·intro _;exact .inr rfl
theorem DM(h:Tu a):Tu (Gl a):=by
 unfold Gl
 apply Ra
 have:=Rc h;omega
theorem Pt{b:ac}(h:Tu a)(k:Tu b):Tu (Fz a b):=by
 apply Ra
 have:=Rc h;have:=Rc k;omega
theorem RB{b:ac}(h:Tu a)(k:Tu b):Tu (TF a b):=by
 apply Ra
 have:=Rc h;have:=Rc k;omega
theorem Yo(f:Int→Bool)(a b:ac):(EX (fb f a b)).2=0→Tu (EX (fb f a b)).1:=by
 unfold EX
 split
 ·rename_i h;intro _;exact DM (sj f a b h)
 ·rename_i h;intro k;exact absurd k h
theorem Uj(f:Int→Bool)(a b:ac):(EX (fb f a b)).2≠0→EX (fb f a b)=(zV,2):=by
 unfold EX
 split
 ·intro h;exact absurd rfl h
 ·rename_i h;intro _;exact Cl f a b h
theorem Cd(h:pk tag=some k)(hk:k≠0){b:ac}(ha:Pl a)(hb:Pl b):
  ((Ce tag a b).2=0∧Pl (Ce tag a b).1)∨Ce tag a b=(zV,2)∨(Ce tag a b=(zV,140)∧(tag=4∨(12≤tag∧tag≤15))):=by
 have har: ∀t x y,Pl x→Pl y→((xk t x y).2=0∧Pl (xk t x y).1)∨xk t x y=(zV,2)∨xk t x y=(zV,140):=by
  intro t x y hx hy
  by_cases h0:(xk t x y).2=0
  ·exact .inl ⟨h0,Zs hx hy h0⟩
  ·rcases Wv t x y h0 with h|h
   ·exact .inr (.inr h)
   ·exact .inr (.inl h)
 have hh: ∀f x y,((fb f x y).2=0∧Pl (fb f x y).1)∨fb f x y=(zV,2):=by
  intro f x y
  by_cases h0:(fb f x y).2=0
  ·exact .inl ⟨h0,(sj f x y h0).pl⟩
  ·exact .inr (Cl f x y h0)
 have hn: ∀f x y,((EX (fb f x y)).2=0∧Pl (EX (fb f x y)).1)∨EX (fb f x y)=(zV,2):=by
  intro f x y
  by_cases h0:(EX (fb f x y)).2=0
  ·exact .inl ⟨h0,(Yo f x y h0).pl⟩
  ·exact .inr (Uj f x y h0)
 rcases Rx h hk with rfl|rfl|rfl|rfl|rfl|rfl|rfl|rfl|rfl|rfl|rfl|rfl|rfl|rfl|rfl|rfl
 ·rcases har 13 (iV 0) a (.i 0 ⟨by decide,by decide⟩) ha with h|h|h
  ·exact .inl h
  ·exact .inr (.inl h)
  ·exact .inr (.inr ⟨h,.inl rfl⟩)
 ·show _∨_∨_
  unfold Ce
  rw [aX (by decide),bk rfl]
  split
  ·rename_i hk;exact .inl ⟨rfl,(DM ((ji ha).2 hk)).pl⟩
  ·exact .inr (.inl rfl)
 ·exact .inl ⟨rfl,.b _⟩
 ·exact .inl ⟨rfl,.b _⟩
 ·rcases har 12 a b ha hb with h|h|h
  ·exact .inl h
  ·exact .inr (.inl h)
  ·exact .inr (.inr ⟨h,by decide⟩)
 ·rcases har 13 a b ha hb with h|h|h
  ·exact .inl h
  ·exact .inr (.inl h)
  ·exact .inr (.inr ⟨h,by decide⟩)
 ·rcases har 14 a b ha hb with h|h|h
  ·exact .inl h
  ·exact .inr (.inl h)
  ·exact .inr (.inr ⟨h,by decide⟩)
 ·rcases har 15 a b ha hb with h|h|h
  ·exact .inl h
  ·exact .inr (.inl h)
  ·exact .inr (.inr ⟨h,by decide⟩)
 ·exact(hh (fun c=>c==0) a b).imp_right .inl
 ·exact(hn (fun c=>c==0) a b).imp_right .inl
 ·exact(hh (fun c=>decide (c<0)) a b).imp_right .inl
 ·exact(hn (fun c=>decide (c<0)) b a).imp_right .inl
 ·exact(hh (fun c=>decide (c<0)) b a).imp_right .inl
 ·exact(hn (fun c=>decide (c<0)) a b).imp_right .inl
 ·show _∨_∨_
  rw [show Ce 22 a b=if a.Kind≤1∧b.Kind≤1 then(Fz a b,0)else(zV,2)from rfl]
  split
  ·rename_i h;exact .inl ⟨rfl,(Pt ((ji ha).2 h.1) ((ji hb).2 h.2)).pl⟩
  ·exact .inr (.inl rfl)
 ·show _∨_∨_
  rw [show Ce 23 a b=if a.Kind≤1∧b.Kind≤1 then(TF a b,0)else(zV,2)from rfl]
  split
  ·rename_i h;exact .inl ⟨rfl,(RB ((ji ha).2 h.1) ((ji hb).2 h.2)).pl⟩
  ·exact .inr (.inl rfl)

def dz(tag:Int)(a b:ac):ac×Int:=if(Ce tag a b).2=0 then Ce tag a b else(zV,if(Ce tag a b).2=140 then 140 else 201)
def Dj(q:ac×Int)(f:ac→ac×Int):ac×Int:=if q.2=0 then f q.1 else q
def ev(r:List ac):Tr→ac×Int
 | .lf n=>if n.Tag=1 then(n.Value,0)else((r[n.Col.toNat]?).getD zV,0)
 | .un n a=>Dj (ev r a) fun x=>dz n.Tag x x
 | .bi n a b=>Dj (ev r a) fun x=>Dj (ev r b) fun y=>dz n.Tag x y
def TE:Tr→Prop
 | .lf n=>r64 n.Value.N
 | .un _ a=>TE a
 | .bi _ a b=>TE a∧TE b
def yl(r:List ac):Tr→Prop
 | .lf n=>n.Tag=2→n.Col.toNat<r.length∧ ∃v,r[n.Col.toNat]? =some v∧Pl v
 | .un _ a=>yl r a
 | .bi _ a b=>yl r a∧yl r b
theorem vM(h:pk tag=some k)(hk:k≠0){b:ac}(ha:Pl a)(hb:Pl b):
  ((dz tag a b).2=0∧Pl (dz tag a b).1∧dz tag a b=Ce tag a b)∨(dz tag a b=(zV,201)∧Ce tag a b=(zV,2))∨(dz tag a b=(zV,140)∧Ce tag a b=(zV,140)∧(tag=4∨(12≤tag∧tag≤15))):=by
 unfold dz
 rcases Cd h hk ha hb with⟨h1,h2⟩|h1|⟨h1,h2⟩
 ·rw [bk h1];exact .inl ⟨h1,h2,rfl⟩
 ·rw [h1];exact .inr (.inl ⟨rfl,rfl⟩)
 ·rw [h1];exact .inr (.inr ⟨rfl,rfl,h2⟩)
theorem Pa(r:List ac)(n:bC)(a:Tr):ev r (.un n a)=Dj (ev r a) fun x=>dz n.Tag x x:=rfl
theorem Pb(r:List ac)(n:bC)(a b:Tr):ev r (.bi n a b)=Dj (ev r a) fun x=>Dj (ev r b) fun y=>dz n.Tag x y:=rfl
theorem nu{q:ac×Int}{f:ac→ac×Int}(h:q.2=0):Dj q f=f q.1:=bk h
theorem ju{q:ac×Int}{f:ac→ac×Int}(h:q.2≠0):Dj q f=q:=aX h
theorem nr(r:List ac)(t:Tr):t.wf→TE t→yl r t→((ev r t).2=0∧Pl (ev r t).1)∨ev r t=(zV,201)∨ev r t=(zV,140):=by
 induction t with
 |lf n=>
  intro⟨h1,h2,_,_⟩ hr hc
  unfold ev
  split
  ·rename_i ht;exact .inl ⟨rfl,EO (aaB h2 ht) hr⟩
  ·rename_i ht
   have ht2:n.Tag=2:=(Zz h1).resolve_left ht
   obtain⟨_,v,hv,hp⟩:=hc ht2
   rw [hv];exact .inl ⟨rfl,hp⟩
 |un n a ih=>
  intro⟨⟨h1,_,_,_⟩,ha⟩ hr hc
  rw [Pa]
  rcases ih ha hr hc with⟨h2,h3⟩|h2|h2
  ·rw [nu h2]
   rcases vM h1 (by decide) h3 h3 with⟨h4,h5,_⟩|⟨h4,_⟩|⟨h4,_⟩
   ·exact .inl ⟨h4,h5⟩
   ·exact .inr (.inl h4)
   ·exact .inr (.inr h4)
  ·rw [h2,ju (by decide)];exact .inr (.inl rfl)
  ·rw [h2,ju (by decide)];exact .inr (.inr rfl)
 |bi n a b iha ihb=>
  intro⟨⟨h1,_,_,_⟩,ha,hb⟩ ⟨hra,hrb⟩ ⟨hca,hcb⟩
  rw [Pb]
  rcases iha ha hra hca with⟨h2,h3⟩|h2|h2
  ·rw [nu h2]
   rcases ihb hb hrb hcb with⟨k2,k3⟩|k2|k2
   ·rw [nu k2]
    rcases vM h1 (by decide) h3 k3 with⟨h4,h5,_⟩|⟨h4,_⟩|⟨h4,_⟩
    ·exact .inl ⟨h4,h5⟩
    ·exact .inr (.inl h4)
    ·exact .inr (.inr h4)
   ·rw [k2,ju (by decide)];exact .inr (.inl rfl)
   ·rw [k2,ju (by decide)];exact .inr (.inr rfl)
  ·rw [h2,ju (by decide)];exact .inr (.inl rfl)
  ·rw [h2,ju (by decide)];exact .inr (.inr rfl)
theorem Ik(stack l:List ac)(h:stack.length+l.length≤100000):kZ (stack++l) (l.length:Int)=some (l,stack):=by
 unfold kZ gb
 have e:IntKind.i64.wrap (((stack++l).length:Int)-(l.length:Int))=(stack.length:Int):=by
  rw [jx,cL (by omega) (by omega)];omega
 rw [e,ma stack.length (stack++l).length rfl rfl (by simp) (dY _)]
 simp only [bu,xy,GH (dY _),List.drop_length,k7]
 rw [cJ (by simp;omega)]
 simp only [bu,k7]
 rw [ma (i:=0) 0 stack.length rfl rfl (mA _) (by simp)]
 simp
theorem yK(stack:List ac){b:Int}(h:b≠0):gJ b stack=some (zV,b):=by
 unfold gJ;rw [bk (by simpa using h)];rfl
theorem HD(r:List ac)(n:bC)(h:pk n.Tag=some k)(hk:k≠0){b:ac}(ha:Pl a)(hb:Pl b){l:List ac}(h0:de l 0=some a)(h1:de l (IntKind.i64.wrap ((l.length:Int)-1))=some b):
  i9 r BD n l=some ((Ce n.Tag a b).1,(dz n.Tag a b).2):=by
 have hn:=Rx h hk
 unfold i9
 rw [aX (by simp;omega),aX (by simp;omega),h0]
 simp only [bu]
 rw [h1]
 simp only [bu]
 have:=Zj h hk ha hb
 unfold We at this
 rw [this]
 simp only [bu]
 unfold qy
 rcases vM h hk ha hb with⟨h2,_,h4⟩|⟨h2,h4⟩|⟨h2,h4,_⟩
 ·rw [h4]at h2;rw [h4,h2];rfl
 ·rw [h2,h4];rfl
 ·rw [h2,h4];rfl
theorem MM(r:List ac)(t:Tr):t.wf→TE t→yl r t→ ∀(s:Nat) (rest:List bC) (stack:List ac),stack.length+t.size≤50000→
  dT (i9 r BD) (t.flat s++rest) 0 stack=if(ev r t).2=0 then dT (i9 r BD) rest 0 (stack++[(ev r t).1])else some (zV,(ev r t).2):=by
 induction t with
 |lf n=>
  intro⟨h1,h2,h3,h4⟩ hr hc s rest stack hl
  simp only [Tr.flat,Tr.size,xo,k7]at hl ⊢
  rw [dT]
  have e1:(il n (-1) (-1)).Tag=n.Tag:=rfl
  rw [e1,nI h1]
  have h0:=Ik stack [] (by simp;omega)
  simp only [tu,pZ]at h0
  simp only [bu]
  rw [h0]
  simp only [bu]
  have hv:i9 r BD (il n (-1) (-1)) []=some (ev r (.lf n)):=by
   unfold i9 ev
   simp only [e1]
   rcases Zz h1 with ht|ht
   ·rw [bk (by simp [ht]),bk ht];rfl
   ·rw [aX (by simp [ht]),bk (by simp [ht]),aX (by simp [ht])]
    have hb:=Nu h2 ht
    obtain⟨hm,v,hv,_⟩:=hc ht
    have e2:(il n (-1) (-1)).Col=n.Col:=rfl
    rw [e2,iA n.Col.toNat (by omega),hv]
    rfl
  have e0:(ev r (.lf n)).2=0:=by unfold ev;split<;>rfl
  rw [hv,bk e0]
  simp only [bu,e0]
  rw [aX (by simp),cJ (by simp;omega)]
  rfl
 |un n a ih=>
  intro⟨⟨h1,h2,h3,h4⟩,ha⟩ hr hc s rest stack hl
  simp only [Tr.flat,Tr.size,jO]at hl ⊢
  rw [Pa,ih ha hr hc s _ stack (by omega)]
  by_cases hx:(ev r a).2=0
  ·have hp:Pl (ev r a).1:=by
    rcases nr r a ha hr hc with⟨_,h⟩|h|h
    ·exact h
    ·rw [h]at hx;cases hx
    ·rw [h]at hx;cases hx
   rw [bk hx,nu hx]
   generalize (ev r a).1=x at hp
   simp only [xo,k7]
   rw [dT]
   have e1:(il n (((s+a.size:Nat):Int)-1) (-1)).Tag=n.Tag:=rfl
   rw [e1,nI h1]
   have h0:=Ik stack [x] (by simp;omega)
   simp only [bu]
   have e0:(([x]:List ac).length:Int)=((1:Nat):Int):=rfl
   rw [←e0,h0]
   simp only [bu]
   rw [HD r (il n (((s+a.size:Nat):Int)-1) (-1)) (k:=1) h1 (by decide) hp hp rfl rfl]
   simp only [bu,e1]
   rcases vM h1 (by decide) hp hp with⟨h5,_,h6⟩|⟨h5,_⟩|⟨h5,_⟩
   ·rw [aX (by simp [h5]),bk h5,cJ (by simp;omega),h6];rfl
   ·rw [h5,bk (by decide),yK _ (by decide),aX (by decide)]
   ·rw [h5,bk (by decide),yK _ (by decide),aX (by decide)]
  ·rw [aX hx,ju hx,aX hx]
 |bi n a b iha ihb=>
  intro⟨⟨h1,h2,h3,h4⟩,ha,hb⟩ ⟨hra,hrb⟩ ⟨hca,hcb⟩ s rest stack hl
  simp only [Tr.flat,Tr.size,jO]at hl ⊢
  rw [Pb,iha ha hra hca s _ stack (by omega)]
  by_cases hx:(ev r a).2=0
  ·have hp:Pl (ev r a).1:=by
    rcases nr r a ha hra hca with⟨_,h⟩|h|h
    ·exact h
    ·rw [h]at hx;cases hx
    ·rw [h]at hx;cases hx
   rw [bk hx,nu hx]
   generalize (ev r a).1=x at hp
   rw [ihb hb hrb hcb (s+a.size) _ (stack++[x]) (by have:=a.size_pos;simp;omega)]
   by_cases hy:(ev r b).2=0
   ·have hq:Pl (ev r b).1:=by
     rcases nr r b hb hrb hcb with⟨_,h⟩|h|h
     ·exact h
     ·rw [h]at hy;cases hy
     ·rw [h]at hy;cases hy
    rw [bk hy,nu hy]
    generalize (ev r b).1=y at hq
    have hap:=a.size_pos
    simp only [xo,k7]
    rw [dT]
    have e1:(il n (((s+a.size:Nat):Int)-1) (((s+a.size+b.size:Nat):Int)-1)).Tag=n.Tag:=rfl
    rw [e1,nI h1]
    have h0:=Ik stack [x,y] (by simp;omega)
    simp only [bu]
    have e0:(([x,y]:List ac).length:Int)=((2:Nat):Int):=rfl
    have e9:stack++[x]++[y]=stack++[x,y]:=by simp
    rw [←e0,e9,h0]
    simp only [bu]
    rw [HD r (il n (((s+a.size:Nat):Int)-1) (((s+a.size+b.size:Nat):Int)-1)) (k:=2) h1 (by decide) hp hq rfl rfl]
    simp only [bu,e1]
    rcases vM h1 (by decide) hp hq with⟨h5,_,h6⟩|⟨h5,_⟩|⟨h5,_⟩
    ·rw [aX (by simp [h5]),bk h5,cJ (by simp;omega),h6];rfl
    ·rw [h5,bk (by decide),yK _ (by decide),aX (by decide)]
    ·rw [h5,bk (by decide),yK _ (by decide),aX (by decide)]
   ·rw [aX hy,ju hy,aX hy]
  ·rw [aX hx,ju hx,aX hx]
def zm(r:List ac)(c:Int):Bool:=decide (c<(r.length:Int))&&mP ((r[c.toNat]?).getD zV)
def ue(r:List ac)(ns:List bC):Bool:=ns.all fun n=> !(n.Tag==2)||zm r n.Col
def Jm(ns:List bC):Prop:= ∀n∈ns,r64 n.Value.N
def T8(r:List ac):Prop:= ∀v∈r,r64 v.N
theorem QD(hr:T8 r){c:Int}(h0:0≤c)(h:zm r c=true):c.toNat<r.length∧ ∃v,r[c.toNat]? =some v∧Pl v:=by
 unfold zm at h
 rw [mz,lX]at h
 have hlt:c.toNat<r.length:=by omega
 refine⟨hlt,r[c.toNat],ph hlt,?_⟩
 have h2:=h.2
 rw [ph hlt]at h2
 exact EO h2 (hr _ (List.getElem_mem hlt))
theorem wN(hr:T8 r)(t:Tr):t.wf→ ∀s,ue r (t.flat s)=true→yl r t:=by
 induction t with
 |lf n=>
  intro⟨_,h2,_,_⟩ s h ht
  simp only [ue,Tr.flat,zU,List.all_nil,zq]at h
  have e1:(il n (-1) (-1)).Tag=n.Tag:=rfl
  have e2:(il n (-1) (-1)).Col=n.Col:=rfl
  rw [e1,e2,ht]at h
  exact QD hr (Nu h2 ht).1 (by simpa using h)
 |un n a ih=>
  intro⟨_,ha⟩ s h
  simp only [ue,Tr.flat,List.all_append,mz]at h
  exact ih ha s h.1
 |bi n a b iha ihb=>
  intro⟨_,ha,hb⟩ s h
  simp only [ue,Tr.flat,List.all_append,mz]at h
  exact⟨iha ha s h.1.1,ihb hb _ h.1.2⟩
theorem A5(t:Tr): ∀s,Jm (t.flat s)→TE t:=by
 induction t with
 |lf n=>intro s h;exact h (il n (-1) (-1)) (by simp [Tr.flat])
 |un n a ih=>intro s h;exact ih s fun m hm=>h m (by simp [Tr.flat,hm])
 |bi n a b iha ihb=>intro s h;exact⟨iha s fun m hm=>h m (by simp [Tr.flat,hm]),ihb _ fun m hm=>h m (by simp only [Tr.flat,AF];exact .inl (.inr hm))⟩
theorem Ej{t:Tr}(hw:t.wf): ∀s {n:bC},n∈t.flat s→n.Tag=2→0≤n.Col∧n.Col<16:=by
 induction t with
 |lf m=>
  intro s n hn ht
  simp only [Tr.flat,Do]at hn
  subst hn
  exact Nu hw.2.1 ht
 |un m a ih=>
  intro s n hn ht
  simp only [Tr.flat,AF,Do]at hn
  rcases hn with hn|rfl
  ·exact ih hw.2 s hn ht
  ·exact absurd (pk2 hw.1.1 ht) (by decide)
 |bi m a b iha ihb=>
  intro s n hn ht
  simp only [Tr.flat,AF,Do]at hn
  rcases hn with(hn|hn)|rfl
  ·exact iha hw.2.1 s hn ht
  ·exact ihb hw.2.2 _ hn ht
  ·exact absurd (pk2 hw.1.1 ht) (by decide)
def oU(r:List ac)(ns:List bC):ac×Int:=match mJ ns with
 |none=>(zV,200)
 |some t=>if ue r ns then ev r t else(zV,2)
theorem FO(e:bS)(r:List ac)(x:ac): ∀cs:List Int,(∀c∈cs,0≤c)→oG e r cs x=if cs.all (zm r)then iU e (i9 r BD)else some (zV,2)
 |[],_=>by
  unfold oG
  rw [I7]
  simp only [bu]
  cases iU e (i9 r BD)<;>rfl
 |c::cs,hc=>by
  unfold oG
  rw [FO e r x cs fun c hm=>hc c (lc _ hm)]
  have h0:=hc c (lb ..)
  by_cases h:(r.length:Int)≤c
  ·have hb:zm r c=false:=by unfold zm;rw [Bool.and_eq_false_iff];left;simp;omega
   simp [h,hb,zV]
  ·have hlt:c.toNat<r.length:=by omega
   have e1:de r c=some r[c.toNat]:=by rw [iA c.toNat (by omega),ph hlt]
   have hb:zm r c=mP r[c.toNat]:=by
    unfold zm
    rw [ph hlt]
    have:decide (c<(r.length:Int))=true:=by simp;omega
    rw [this];rfl
   rw [bk (by simpa using h),e1]
   simp only [bu,tB]
   rw [zU,hb]
   cases mP r[c.toNat]<;>simp [zV]
theorem Ko(r:List ac){t:Tr}(hw:t.wf)(hr:TE t)(hc:yl r t)(hs:t.size≤1000):iU ⟨t.flat 0⟩ (i9 r BD)=some (ev r t):=by
 unfold iU
 have h:=MM r t hw hr hc 0 [] [] (by simp;omega)
 rw [tu]at h
 rw [h]
 rcases nr r t hw hr hc with⟨h2,h3⟩|h2|h2
 ·rw [bk h2]
  unfold dT gJ
  rw [aX (by simp)]
  simp only [k7]
  rw [show de [(ev r t).1] 0=some (ev r t).1 from rfl]
  simp only [bu]
  congr 1
  exact Prod.ext rfl h2.symm
 ·rw [h2,aX (by decide)]
 ·rw [h2,aX (by decide)]
theorem wI(e:bS)(r:List ac)(hl:e.Nodes.length≤50000)(he:Jm e.Nodes)(hr:T8 r):tk e r=some (oU r e.Nodes):=by
 unfold tk oU
 rw [rJ e (by omega)]
 cases ht:mJ e.Nodes with
 |none=>
  have:jd e.Nodes=false:=by unfold jd;rw [ht];rfl
  rw [this];rfl
 |some t=>
  have hri:jd e.Nodes=true:=by unfold jd;rw [ht];rfl
  obtain⟨hw,hN,hs⟩:=kz ht
  rw [hri]
  simp only [fM,bu]
  rw [aX (by decide)]
  obtain⟨cs,h1,h2⟩:=Bw e hri
  rw [h1]
  simp only [bu]
  have hcnt: ∀n∈e.Nodes,n.Tag=2→0≤n.Col:=fun n hn htag=>by
   rw [hN]at hn
   exact(Ej hw 0 hn htag).1
  rw [FO e r _ cs fun c hc=>by obtain⟨n,hn,htag,rfl⟩:=(h2 c).1 hc;exact hcnt n hn htag]
  have hcols:cs.all (zm r)=ue r e.Nodes:=by
   rw [AE,ki]
   unfold ue
   rw [ki]
   constructor
   ·intro h n hn
    by_cases htag:n.Tag=2
    ·rw [h n.Col ((h2 _).2 ⟨n,hn,htag,rfl⟩)];simp
    ·simp [htag]
   ·intro h c hc
    obtain⟨n,hn,htag,rfl⟩:=(h2 c).1 hc
    have:=h n hn
    simpa [htag] using this
  rw [hcols]
  cases hb:ue r e.Nodes with
  |false=>rfl
  |true=>
   simp only [fM]
   have e9:e=⟨t.flat 0⟩:=by cases e;simp only at hN;rw [hN]
   rw [hN]at he hb
   rw [e9]
   exact Ko r hw (A5 t 0 he) (wN hr t hw 0 hb) hs


variable{ka kb:Int}
theorem KI(ht:tag=4∨tag=12∨tag=13∨tag=14∨tag=15):kn tag ka kb=(2,(ka==2||ka==0)&&(kb==2||kb==0)):=by
 rcases ht with rfl|rfl|rfl|rfl|rfl<;>(unfold kn jn iJ;cases (ka==2||ka==0)<;>cases (kb==2||kb==0)<;>rfl)
theorem RT(ht:tag=5∨tag=22∨tag=23):kn tag ka kb=(1,(ka==1||ka==0)&&(kb==1||kb==0)):=by
 rcases ht with rfl|rfl|rfl<;>(unfold kn jn iJ;cases (ka==1||ka==0)<;>cases (kb==1||kb==0)<;>rfl)
def rf(v:ac)(k:Int):Prop:=v.Kind=k∨v.Kind=0
theorem Kg(h:pk tag=some k)(hk:k≠0){b:ac}(ha:Pl a)(hb:Pl b)(h1:rf a ka)(h2:k=1∧b=a∧kb=0∨k=2∧rf b kb)(hn:(kn tag ka kb).2=true):
  ((Ce tag a b).2=0∧rf (Ce tag a b).1 (kn tag ka kb).1)∨Ce tag a b=(zV,140):=by
 have har: ∀t x y,rf x 2→rf y 2→((xk t x y).2=0∧rf (xk t x y).1 2)∨xk t x y=(zV,140):=by
  intro t x y hx hy
  unfold xk
  rw [bk ⟨hx.symm,hy.symm⟩]
  split
  ·exact .inl ⟨rfl,.inr rfl⟩
  ·split
   ·exact .inl ⟨rfl,.inl rfl⟩
   ·exact .inr rfl
 have hbv: ∀x,(bV x).Kind=1:=fun _=>rfl
 have htv: ∀{v},Tu v→rf v 1:=fun h=>by cases h;exact .inr rfl;exact .inl rfl
 have hh: ∀f,(a.Kind=b.Kind∨a.Kind=0∨b.Kind=0)→(fb f a b).2=0∧(fb f b a).2=0:=by
  intro f hx
  unfold fb
  constructor
  ·split
   ·rfl
   ·rw [bk (by rename_i h9;simp only [not_or]at h9;rcases hx with h|h|h;exact h;exact absurd h h9.1;exact absurd h h9.2)]
  ·split
   ·rfl
   ·rw [bk (by rename_i h9;simp only [not_or]at h9;rcases hx with h|h|h;exact h.symm;exact absurd h h9.2;exact absurd h h9.1)]
 have hkk:k=2→(ka=kb∨ka=0∨kb=0)→(a.Kind=b.Kind∨a.Kind=0∨b.Kind=0):=by
  intro h9 h
  rcases h2 with⟨h5,_⟩|⟨_,h2⟩
  ·omega
  unfold rf at h1 h2
  rcases h with h|h|h<;>rcases h1 with h1|h1<;>rcases h2 with h2|h2<;>simp_all
 have hno: ∀f x y,(fb f x y).2=0→(EX (fb f x y)).2=0∧rf (EX (fb f x y)).1 1:=by
  intro f x y h9
  unfold EX
  rw [bk h9]
  exact⟨rfl,htv (DM (sj f x y h9))⟩
 have h3:k=2→rf b kb:=by intro h9;rcases h2 with⟨h5,_⟩|⟨_,h2⟩;omega;exact h2
 have h10: ∀{x:ac} {kx:Int},rf x kx→kx=2∨kx=0→rf x 2:=by
  intro x kx h h';unfold rf at*;omega
 have h11: ∀{x:ac} {kx:Int},rf x kx→kx=1∨kx=0→x.Kind≤1:=by
  intro x kx h h';unfold rf at*;omega
 rcases Rx h hk with rfl|rfl|rfl|rfl|rfl|rfl|rfl|rfl|rfl|rfl|rfl|rfl|rfl|rfl|rfl|rfl
 ·rw [KI (by decide)]at hn ⊢
  have hx:ka=2∨ka=0:=by simp at hn;exact hn.1
  have:=har 13 (iV 0) a (.inl rfl) (h10 h1 hx)
  exact this
 ·rw [RT (by decide)]at hn ⊢
  have hx:ka=1∨ka=0:=by simp at hn;exact hn.1
  have e:Ce 5 a b=(Gl a,0):=by
   show(if a.Kind≤1 then(Gl a,0)else(zV,2))=_
   rw [bk (h11 h1 hx)]
  rw [e];exact .inl ⟨rfl,htv (DM ((ji ha).2 (h11 h1 hx)))⟩
 ·exact .inl ⟨rfl,.inl rfl⟩
 ·exact .inl ⟨rfl,.inl rfl⟩
 all_goals have hk2:k=2:=by simp [pk]at h;omega
 all_goals have hb3:=h3 hk2
 ·rw [KI (by decide)]at hn ⊢
  have hx:(ka=2∨ka=0)∧(kb=2∨kb=0):=by simp at hn;exact hn
  exact har 12 a b (h10 h1 hx.1) (h10 hb3 hx.2)
 ·rw [KI (by decide)]at hn ⊢
  have hx:(ka=2∨ka=0)∧(kb=2∨kb=0):=by simp at hn;exact hn
  exact har 13 a b (h10 h1 hx.1) (h10 hb3 hx.2)
 ·rw [KI (by decide)]at hn ⊢
  have hx:(ka=2∨ka=0)∧(kb=2∨kb=0):=by simp at hn;exact hn
  exact har 14 a b (h10 h1 hx.1) (h10 hb3 hx.2)
 ·rw [KI (by decide)]at hn ⊢
  have hx:(ka=2∨ka=0)∧(kb=2∨kb=0):=by simp at hn;exact hn
  exact har 15 a b (h10 h1 hx.1) (h10 hb3 hx.2)
 ·have hx:ka=kb∨ka=0∨kb=0:=by simp [kn,jn,iJ]at hn;omega
  have:=(hh (fun c=>c==0) (hkk hk2 hx)).1
  exact .inl ⟨this,htv (sj _ a b this)⟩
 ·have hx:ka=kb∨ka=0∨kb=0:=by simp [kn,jn,iJ]at hn;omega
  exact .inl (hno (fun c=>c==0) a b (hh _ (hkk hk2 hx)).1)
 ·have hx:ka=kb∨ka=0∨kb=0:=by simp [kn,jn,iJ]at hn;omega
  have:=(hh (fun c=>decide (c<0)) (hkk hk2 hx)).1
  exact .inl ⟨this,htv (sj _ a b this)⟩
 ·have hx:ka=kb∨ka=0∨kb=0:=by simp [kn,jn,iJ]at hn;omega
  exact .inl (hno (fun c=>decide (c<0)) b a (hh _ (hkk hk2 hx)).2)
 ·have hx:ka=kb∨ka=0∨kb=0:=by simp [kn,jn,iJ]at hn;omega
  have:=(hh (fun c=>decide (c<0)) (hkk hk2 hx)).2
  exact .inl ⟨this,htv (sj _ b a this)⟩
 ·have hx:ka=kb∨ka=0∨kb=0:=by simp [kn,jn,iJ]at hn;omega
  exact .inl (hno (fun c=>decide (c<0)) a b (hh _ (hkk hk2 hx)).1)
 ·rw [RT (by decide)]at hn ⊢
  have hx:(ka=1∨ka=0)∧(kb=1∨kb=0):=by simp at hn;exact hn
  have e:Ce 22 a b=(Fz a b,0):=by
   show(if a.Kind≤1∧b.Kind≤1 then(Fz a b,0)else(zV,2))=_
   rw [bk ⟨h11 h1 hx.1,h11 hb3 hx.2⟩]
  rw [e];exact .inl ⟨rfl,htv (Pt ((ji ha).2 (h11 h1 hx.1)) ((ji hb).2 (h11 hb3 hx.2)))⟩
 ·rw [RT (by decide)]at hn ⊢
  have hx:(ka=1∨ka=0)∧(kb=1∨kb=0):=by simp at hn;exact hn
  have e:Ce 23 a b=(TF a b,0):=by
   show(if a.Kind≤1∧b.Kind≤1 then(TF a b,0)else(zV,2))=_
   rw [bk ⟨h11 h1 hx.1,h11 hb3 hx.2⟩]
  rw [e];exact .inl ⟨rfl,htv (RB ((ji ha).2 (h11 h1 hx.1)) ((ji hb).2 (h11 hb3 hx.2)))⟩
def kindR(kinds:List Int)(r:List ac):Prop:= ∀(j:Nat) (k:Int),kinds[j]? =some k→ ∃v,r[j]? =some v∧Pl v∧rf v k
theorem Z7(hk4: ∀k∈kinds,k4 k)(hr:kindR kinds r)(t:Tr):t.wf→TE t→yl r t→Dg kinds.length t→ ∀{k},kd kinds t=some k→
  ((ev r t).2=0∧rf (ev r t).1 k)∨(ev r t=(zV,140)∧ ∀s,(t.flat s).any Zt=true):=by
 induction t with
 |lf n=>
  intro⟨h1,h2,_,_⟩ hg hc hcT k hk
  unfold kd at hk
  unfold ev
  split at hk
  ·rename_i ht;rw [bk ht];cases hk;exact .inl ⟨rfl,.inl rfl⟩
  ·rename_i ht
   have ht2:n.Tag=2:=(Zz h1).resolve_left ht
   have hlt:=hcT ht2
   have h0:=(Nu h2 ht2).1
   rw [aX ht]
   have hgk:kinds[n.Col.toNat]? =some k:=by
    rw [ph (by omega)]at hk ⊢
    simpa using hk
   obtain⟨v,h3,h4,h5⟩:=hr _ _ hgk
   rw [h3];exact .inl ⟨rfl,h5⟩
 |un n a ih=>
  intro⟨⟨h1,_,_,_⟩,ha⟩ hg hc hcT k hk
  rw [Ow]at hk
  cases hx:kd kinds a with
  |none=>rw [hx]at hk;cases hk
  |some x=>
   rw [hx,bu]at hk
   split at hk
   ·rename_i hkn
    cases hk
    rw [Pa]
    rcases ih ha hg hc hcT hx with⟨h2,h3⟩|⟨h2,h3⟩
    ·rw [nu h2]
     have hp:Pl (ev r a).1:=by
      rcases nr r a ha hg hc with⟨_,h⟩|h|h
      ·exact h
      ·rw [h]at h2;cases h2
      ·rw [h]at h2;cases h2
     unfold dz
     rcases Kg h1 (by decide) hp hp h3 (.inl ⟨rfl,rfl,rfl⟩) hkn with⟨h4,h5⟩|h4
     ·rw [bk h4];exact .inl ⟨h4,h5⟩
     ·rcases Cd h1 (by decide) hp hp with⟨h6,_⟩|h6|⟨_,h6⟩
      ·rw [h4]at h6;cases h6
      ·rw [h4]at h6;cases h6
      ·rw [h4]
       exact .inr ⟨rfl,fun s=>by simp only [Tr.flat,Gw,wW,List.any_nil,Bool.or_false,qO];right;simp only [Zt];have:(il n (((s+a.size:Nat):Int)-1) (-1)).Tag=n.Tag:=rfl;rw [this];simp;omega⟩
    ·rw [h2,ju (by decide)]
     exact .inr ⟨rfl,fun s=>by simp only [Tr.flat,Gw,qO];exact .inl (h3 s)⟩
   ·cases hk
 |bi n a b iha ihb=>
  intro⟨⟨h1,_,_,_⟩,ha,hb⟩ ⟨hga,hgb⟩ ⟨hca,hcb⟩ ⟨hTa,hTb⟩ k hk
  rw [KQ]at hk
  cases hx:kd kinds a with
  |none=>rw [hx]at hk;cases hk
  |some x=>
   cases hy:kd kinds b with
   |none=>rw [hx,hy]at hk;cases hk
   |some y=>
    rw [hx,hy]at hk
    simp only [bu]at hk
    split at hk
    ·rename_i hkn
     cases hk
     rw [Pb]
     rcases iha ha hga hca hTa hx with⟨h2,h3⟩|⟨h2,h3⟩
     ·rw [nu h2]
      have hp:Pl (ev r a).1:=by
       rcases nr r a ha hga hca with⟨_,h⟩|h|h
       ·exact h
       ·rw [h]at h2;cases h2
       ·rw [h]at h2;cases h2
      rcases ihb hb hgb hcb hTb hy with⟨q2,q3⟩|⟨q2,q3⟩
      ·rw [nu q2]
       have hq:Pl (ev r b).1:=by
        rcases nr r b hb hgb hcb with⟨_,h⟩|h|h
        ·exact h
        ·rw [h]at q2;cases q2
        ·rw [h]at q2;cases q2
       unfold dz
       rcases Kg h1 (by decide) hp hq h3 (.inr ⟨rfl,q3⟩) hkn with⟨h4,h5⟩|h4
       ·rw [bk h4];exact .inl ⟨h4,h5⟩
       ·rcases Cd h1 (by decide) hp hq with⟨h6,_⟩|h6|⟨_,h6⟩
        ·rw [h4]at h6;cases h6
        ·rw [h4]at h6;cases h6
        ·rw [h4]
         exact .inr ⟨rfl,fun s=>by simp only [Tr.flat,Gw,wW,List.any_nil,Bool.or_false,qO];right;simp only [Zt];have:(il n (((s+a.size:Nat):Int)-1) (((s+a.size+b.size:Nat):Int)-1)).Tag=n.Tag:=rfl;rw [this];simp;omega⟩
      ·rw [q2,ju (by decide)]
       exact .inr ⟨rfl,fun s=>by simp only [Tr.flat,Gw,qO];exact .inl (.inr (q3 _))⟩
     ·rw [h2,ju (by decide)]
      exact .inr ⟨rfl,fun s=>by simp only [Tr.flat,Gw,qO];exact .inl (.inl (h3 s))⟩
    ·cases hk
theorem RU{e:bS}(h:(gc e kinds).2=0): ∃t,mJ e.Nodes=some t∧(∀k∈kinds,k4 k)∧rp kinds.length e.Nodes=true∧kd kinds t=some (gc e kinds).1:=by
 unfold gc at h ⊢
 split at h
 ·rename_i h1
  rw [bk h1]
  split at h
  ·rename_i h2
   rw [bk h2]
   split at h
   ·rename_i h3
    rw [bk h3]
    unfold jd at h1
    cases ht:mJ e.Nodes with
    |none=>rw [ht]at h1;cases h1
    |some t=>
     rw [ht]at h
     simp only [bu]at h ⊢
     cases hk:kd kinds t with
     |none=>rw [hk]at h;cases h
     |some k=>exact⟨t,rfl,fun k hk=>yP h2 hk,h3,hk⟩
   ·cases h
  ·cases h
 ·cases h
theorem Ql(ns:List bC)(hl:ns.length≤200)(hg:Jm ns)(kinds:List Int)(h:(gc ⟨ns⟩ kinds).2=0)(own:List ac)(hr:kindR kinds own)(hrg:T8 own)(hlen:own.length=kinds.length):
  ((oU own ns).2=0∧Pl (oU own ns).1∧rf (oU own ns).1 (gc ⟨ns⟩ kinds).1)∨((oU own ns).2=140∧ns.any Zt=true):=by
 obtain⟨t,ht,hk4,hcols,hkd⟩:=RU h
 obtain⟨hw,hN,hs⟩:=kz ht
 have hN:ns=t.flat 0:=hN
 have hcT:Dg kinds.length t:=ym _ t hw 0 (by rw [←hN];exact hcols)
 have hcB:ue own ns=true:=by
  unfold ue
  rw [ki]
  intro n hn
  by_cases htag:n.Tag=2
  ·have hc:=ki.1 hcols n hn
   have h0:=(Ej hw 0 (by rw [←hN];exact hn) htag).1
   simp [htag]at hc ⊢
   have hlt:n.Col.toNat<kinds.length:=by omega
   obtain⟨v,hv,hp,_⟩:=hr n.Col.toNat kinds[n.Col.toNat] (ph hlt)
   unfold zm
   rw [hv]
   have e1:decide (n.Col<(own.length:Int))=true:=by simp;omega
   rw [e1];simpa using hp.plain
  ·simp [htag]
 have hcV:yl own t:=wN hrg t hw 0 (by rw [←hN];exact hcB)
 have hgT:=A5 t 0 (by rw [←hN];exact hg)
 have hev:oU own ns=ev own t:=by unfold oU;rw [ht];simp [hcB]
 rw [hev]
 rcases Z7 hk4 hr t hw hgT hcV hcT hkd with⟨h2,h3⟩|⟨h2,h3⟩
 ·left
  refine⟨h2,?_,h3⟩
  rcases nr own t hw hgT hcV with⟨_,h⟩|h|h
  ·exact h
  ·rw [h]at h2;cases h2
  ·rw [h]at h2;cases h2
 ·right
  rw [h2]
  exact⟨rfl,by rw [hN];exact h3 0⟩

def sh(s:Nat)(x:Int):Int:=if 0≤x then x+(s:Int)else x
def cb(r:List ac):Tr→Bool
 | .lf n=> !(n.Tag==2)||zm r n.Col
 | .un _ a=>cb r a
 | .bi _ a b=>cb r a&&cb r b

def us(s:Nat)(x:Int):Int:=if 0≤x then x-(s:Int)else x

def fA(v:ac)(l:List ac):ac:=l.foldl Fz v

theorem kg{a b:Bool}(h:a=true↔b=true):a=b:=by cases a<;>cases b<;>simp_all

theorem DN(h:r64 x):(BitVec.ofInt 64 x).msb=decide (x<0):=by
 unfold r64 at h
 rw [BitVec.msb_eq_toInt,BitVec.toInt_ofInt]
 congr 1
 have:x.bmod (2^64)=x:=by
  rw [Int.bmod_def]
  split<;>omega
 rw [this]
theorem Ed(b:BitVec 64):IntKind.i64.wrap (b.toNat:Int)=b.toInt:=by
 rw [v6,BitVec.toInt_eq_toNat_cond]
 have:=b.isLt
 first|done|omega|(split<;>omega)
theorem yr(hx:r64 x)(hy:r64 y):(decide (ea .xor .i64 x y<0))=(decide (x<0) !=decide (y<0))∧r64 (ea .xor .i64 x y):=by
 refine⟨?_,o0 _⟩
 have e:ea .xor .i64 x y=(BitVec.ofInt 64 x^^^BitVec.ofInt 64 y).toInt:=Ed _
 rw [e,←BitVec.msb_eq_toInt,BitVec.msb_xor,DN hx,DN hy]
theorem Jf(hx:r64 x)(hy:r64 y):(decide (ea .and .i64 x y<0))=(decide (x<0)&&decide (y<0)):=by
 have e:ea .and .i64 x y=(BitVec.ofInt 64 x&&&BitVec.ofInt 64 y).toInt:=Ed _
 rw [e,←BitVec.msb_eq_toInt,BitVec.msb_and,DN hx,DN hy]
theorem Fp(z:Int):decide (0≤z)= !decide (z<0):=by
 by_cases h:z<0
 ·have: ¬0≤z:=by omega
  simp [h,this]
 ·have:0≤z:=by omega
  simp [h,this]
instance(z:Int):Decidable (r64 z):=by unfold r64;infer_instance
theorem Tk(hx:r64 x)(hy:r64 y):Nz 12 x y=(IntKind.i64.wrap (x+y),decide (r64 (x+y))):=by
 have hc:=o0 (x+y)
 show(IntKind.i64.wrap (x+y),_)=_
 congr 1
 show decide ((0:Int)≤_)=_
 obtain⟨h1,h2⟩:=yr hx hc
 obtain⟨h3,h4⟩:=yr hy hc
 rw [Fp,Jf h2 h4,h1,h3]
 have hcw:=v6 (x+y)
 unfold r64 at hx hy hc ⊢
 generalize IntKind.i64.wrap (x+y)=c at hc hcw ⊢
 by_cases hr: -9223372036854775808≤x+y∧x+y≤9223372036854775807
 ·rw [zb hr]
  by_cases p1:x<0<;>by_cases p2:y<0<;>by_cases p3:c<0<;>simp only [p1,p2,p3,CM,decide_false]<;>first|rfl|(exfalso;omega)
 ·rw [zc hr]
  by_cases p1:x<0<;>by_cases p2:y<0<;>by_cases p3:c<0<;>simp only [p1,p2,p3,CM,decide_false]<;>first|rfl|(exfalso;omega)
theorem Ri(hx:r64 x)(hy:r64 y):Nz 13 x y=(IntKind.i64.wrap (x-y),decide (r64 (x-y))):=by
 have hc:=o0 (x-y)
 show(IntKind.i64.wrap (x-y),_)=_
 congr 1
 show decide ((0:Int)≤_)=_
 obtain⟨h1,h2⟩:=yr hx hy
 obtain⟨h3,h4⟩:=yr hx hc
 rw [Fp,Jf h2 h4,h1,h3]
 have hcw:=v6 (x-y)
 unfold r64 at hx hy hc ⊢
 generalize IntKind.i64.wrap (x-y)=c at hc hcw ⊢
 by_cases hr: -9223372036854775808≤x-y∧x-y≤9223372036854775807
 ·rw [zb hr]
  by_cases p1:x<0<;>by_cases p2:y<0<;>by_cases p3:c<0<;>simp only [p1,p2,p3,CM,decide_false]<;>first|rfl|(exfalso;omega)
 ·rw [zc hr]
  by_cases p1:x<0<;>by_cases p2:y<0<;>by_cases p3:c<0<;>simp only [p1,p2,p3,CM,decide_false]<;>first|rfl|(exfalso;omega)
theorem Fy{y:Nat}(h:y<18446744073709551616):ea .and .u64 (y:Int) 4294967295=((y%4294967296:Nat):Int):=by
 have e:ea .and .u64 (y:Int) 4294967295=IntKind.u64.wrap (((BitVec.ofInt 64 (y:Int)&&&BitVec.ofInt 64 4294967295).toNat:Nat):Int):=rfl
 have e1:BitVec.ofInt 64 (y:Int)=BitVec.ofNat 64 y:=BitVec.ofInt_natCast 64 y
 have e2:BitVec.ofInt 64 4294967295=BitVec.ofNat 64 (2^32-1):=by decide
 rw [e,e1,e2,BitVec.toNat_and,BitVec.toNat_ofNat,BitVec.toNat_ofNat,CS (by omega:y<2^64),CS (by omega:2^32-1<2^64),Nat.and_two_pow_sub_one_eq_mod,GJ (by omega) (by omega)]
theorem wY(y:Nat):((y:Int)).fdiv (2^(min (Int.toNat (32:Int)) IntKind.u64.bits))=((y/4294967296:Nat):Int):=by
 have e:(2:Int)^(min (Int.toNat (32:Int)) IntKind.u64.bits)=4294967296:=by decide
 rw [e,Int.fdiv_eq_ediv_of_nonneg _ (by decide)]
 rfl
theorem qK{n:Nat}(h:n<18446744073709551616):IntKind.u64.wrap (n:Int)=(n:Int):=GJ (by omega) (by omega)
theorem RM(x y:Nat)(hx:x<18446744073709551616)(hy:y<18446744073709551616):nl (x:Int) (y:Int)=some (((x*y/18446744073709551616:Nat):Int),((x*y%18446744073709551616:Nat):Int)):=by
 unfold nl
 have hx0:x%4294967296<4294967296:=vj _ (by decide)
 have hy0:y%4294967296<4294967296:=vj _ (by decide)
 have hx1:x/4294967296<4294967296:=by omega
 have hy1:y/4294967296<4294967296:=by omega
 have ex:x=x/4294967296*4294967296+x%4294967296:=by omega
 have ey:y=y/4294967296*4294967296+y%4294967296:=by omega
 rw [Fy hx,Fy hy,wY,wY]
 generalize x/4294967296=x1 at*
 generalize x%4294967296=x0 at*
 generalize y/4294967296=y1 at*
 generalize y%4294967296=y0 at*
 have b00:x0*y0≤4294967295*4294967295:=xe (by omega) (by omega)
 have b10:x1*y0≤4294967295*4294967295:=xe (by omega) (by omega)
 have b01:x0*y1≤4294967295*4294967295:=xe (by omega) (by omega)
 have b11:x1*y1≤4294967295*4294967295:=xe (by omega) (by omega)
 have exy:x*y=x1*y1*18446744073709551616+(x1*y0+x0*y1)*4294967296+x0*y0:=by
  rw [ex,ey]
  simp only [uU,Nat.mul_add]
  have h1:x1*4294967296*(y1*4294967296)=x1*y1*18446744073709551616:=by
   rw [Nat.mul_mul_mul_comm]
  have h2:x1*4294967296*y0=x1*y0*4294967296:=by rw [Nat.mul_right_comm]
  have h3:x0*(y1*4294967296)=x0*y1*4294967296:=by rw [Nat.mul_assoc]
  rw [h1,h2,h3];omega
 rw [←xx x1 y1,←xx x1 y0,←xx x0 y0,←xx x0 y1,←xx x y]
 rw [exy]
 generalize x0*y0=p at*
 generalize x1*y0=q at*
 generalize x0*y1=r at*
 generalize x1*y1=s at*
 rw [qK (n:=s) (by omega),qK (n:=q) (by omega),qK (n:=p) (by omega),qK (n:=r) (by omega),wY]
 rw [←AL q (p/4294967296),qK (n:=q+p/4294967296) (by omega),wY,←AL s,qK (n:=s+(q+p/4294967296)/4294967296) (by omega)]
 rw [Fy (by omega),←AL,qK (n:=(q+p/4294967296)%4294967296+r) (by omega),wY,←AL,qK (n:=s+(q+p/4294967296)/4294967296+((q+p/4294967296)%4294967296+r)/4294967296) (by omega)]
 congr 1
 refine Prod.ext ?_ ?_
 ·simp only
  congr 1
  omega
 ·simp only
  rw [ur];omega
theorem Kj(x y:Int):x*y=if(decide (x<0) !=decide (y<0))=true then -(((x.natAbs*y.natAbs:Nat)):Int)else((x.natAbs*y.natAbs:Nat):Int):=by
 have hx:x=if x<0 then -(x.natAbs:Int)else(x.natAbs:Int):=by split<;>omega
 have hy:y=if y<0 then -(y.natAbs:Int)else(y.natAbs:Int):=by split<;>omega
 rw [xx]
 by_cases p1:x<0<;>by_cases p2:y<0
 ·rw [bk p1]at hx;rw [bk p2]at hy
  conv=>lhs;rw [hx,hy]
  simp [p1,p2,Int.neg_mul_neg]
 ·rw [bk p1]at hx;rw [aX p2]at hy
  conv=>lhs;rw [hx,hy]
  simp [p1,p2,Int.neg_mul]
 ·rw [aX p1]at hx;rw [bk p2]at hy
  conv=>lhs;rw [hx,hy]
  simp [p1,p2,Int.mul_neg]
 ·rw [aX p1]at hx;rw [aX p2]at hy
  conv=>lhs;rw [hx,hy]
  simp [p1,p2]
theorem GQ(m:Nat)(hm:m<18446744073709551616)(b:Bool): ∃n,m9 (m:Int) b=some (n,decide (r64 (if b then -(m:Int)else(m:Int))))∧(r64 (if b then -(m:Int)else(m:Int))→n=if b then -(m:Int)else(m:Int)):=by
 unfold m9
 cases b with
 |true=>
  simp only [fM]
  refine⟨IntKind.i64.wrap (IntKind.u64.wrap (0-(m:Int))),?_,fun hr=>?_⟩
  ·congr 2
   exact CO.mpr (by unfold r64;omega)
  ·unfold r64 at hr
   rw [ur,v6];omega
 |false=>
  simp only [gL,eT]
  refine⟨IntKind.i64.wrap (m:Int),?_,fun hr=>?_⟩
  ·congr 2
   exact CO.mpr (by unfold r64;omega)
  ·unfold r64 at hr
   rw [v6];omega
theorem RL(hx:r64 x)(hy:r64 y):(Nz 14 x y).2=decide (r64 (x*y))∧(r64 (x*y)→(Nz 14 x y).1=x*y):=by
 have ha:x.natAbs≤9223372036854775808:=by unfold r64 at hx;omega
 have hb:y.natAbs≤9223372036854775808:=by unfold r64 at hy;omega
 have hprod:=Kj x y
 have e:Nz 14 x y=(mF x y).getD (0,false):=rfl
 rw [e]
 unfold mF
 rw [uz x hx,uz y hy]
 simp only [bu]
 rw [RM _ _ (by omega) (by omega)]
 simp only [bu]
 generalize (decide (x<0) !=decide (y<0))=b at hprod ⊢
 generalize x.natAbs*y.natAbs=m at hprod ⊢
 obtain⟨n,h1,h2⟩:=GQ (m%18446744073709551616) (vj _ (by decide)) b
 rw [h1]
 simp only [bu,GA]
 rw [hprod]
 by_cases hm:m<18446744073709551616
 ·rw [CS hm]at h2 ⊢
  have hd:m/18446744073709551616=0:=Nat.div_eq_of_lt hm
  rw [hd]
  refine⟨by simp,fun hr=>h2 hr⟩
 ·have hd:m/18446744073709551616≠0:=by omega
  have hnr: ¬r64 (if b=true then -(m:Int)else(m:Int)):=by
   unfold r64
   split<;>omega
  refine⟨?_,fun hr=>absurd hr hnr⟩
  have:((((m/18446744073709551616:Nat):Int))==0)=false:=by simp;omega
  rw [this]
  simp [hnr]
theorem Kh(x y:Int):x.tdiv y=if(decide (x<0) !=decide (y<0))=true then -((x.natAbs/y.natAbs:Nat):Int)else((x.natAbs/y.natAbs:Nat):Int):=by
 have hx:x=if x<0 then -(x.natAbs:Int)else(x.natAbs:Int):=by split<;>omega
 have hy:y=if y<0 then -(y.natAbs:Int)else(y.natAbs:Int):=by split<;>omega
 have ht: ∀a b:Nat,((a:Int)).tdiv (b:Int)=((a/b:Nat):Int):=fun a b=>rfl
 by_cases p1:x<0<;>by_cases p2:y<0
 ·rw [bk p1]at hx;rw [bk p2]at hy
  conv=>lhs;rw [hx,hy]
  rw [Int.neg_tdiv,Int.tdiv_neg,ht]
  simp [p1,p2]
 ·rw [bk p1]at hx;rw [aX p2]at hy
  conv=>lhs;rw [hx,hy]
  rw [Int.neg_tdiv,ht]
  simp [p1,p2]
 ·rw [aX p1]at hx;rw [bk p2]at hy
  conv=>lhs;rw [hx,hy]
  rw [Int.tdiv_neg,ht]
  simp [p1,p2]
 ·rw [aX p1]at hx;rw [aX p2]at hy
  conv=>lhs;rw [hx,hy]
  rw [ht]
  simp [p1,p2]
theorem SP(hx:r64 x)(hy:r64 y)(h0:y≠0):(Nz 15 x y).2=decide (r64 (x.tdiv y))∧(r64 (x.tdiv y)→(Nz 15 x y).1=x.tdiv y):=by
 have ha:x.natAbs≤9223372036854775808:=by unfold r64 at hx;omega
 have hq:=Kh x y
 have e:Nz 15 x y=(mG x y).getD (0,false):=rfl
 rw [e]
 unfold mG
 rw [aX (by simpa using h0),uz x hx,uz y hy]
 simp only [bu]
 have hn:nz ((y.natAbs:Nat):Int)=some ():=by
  unfold nz
  rw [aX (by omega)]
 rw [hn]
 have ht:((x.natAbs:Int)).tdiv (y.natAbs:Int)=((x.natAbs/y.natAbs:Nat):Int):=rfl
 have hle:x.natAbs/y.natAbs≤x.natAbs:=Nat.div_le_self _ _
 simp only [bu]
 rw [ht,qK (by omega)]
 generalize (decide (x<0) !=decide (y<0))=b at hq ⊢
 obtain⟨n,h1,h2⟩:=GQ (x.natAbs/y.natAbs) (by omega) b
 rw [h1]
 simp only [bu,GA]
 rw [hq]
 exact⟨rfl,h2⟩
def Zg(tag x y:Int):Option Int:=if tag=12 then some (x+y)else if tag=13 then some (x-y)else if tag=14 then some (x*y)else if y=0 then none else some (x.tdiv y)
def Gc(tag x y:Int):ac×Int:=match Zg tag x y with
 |none=>(zV,140)
 |some z=>if r64 z then(iV z,0)else(zV,140)
theorem Xd(x y:Int):Zg 12 x y=some (x+y):=rfl
theorem Xc(x y:Int):Zg 13 x y=some (x-y):=rfl
theorem Xb(x y:Int):Zg 14 x y=some (x*y):=rfl
theorem O8(x y:Int):Zg 15 x y=if y=0 then none else some (x.tdiv y):=rfl
theorem pO{z:Int}(h:Zg tag x y=some z):Gc tag x y=if r64 z then(iV z,0)else(zV,140):=by
 unfold Gc;rw [h]
theorem GW(h:Zg tag x y=none):Gc tag x y=(zV,140):=by
 unfold Gc;rw [h]
theorem H8{a:Int×Bool}{z:Int}(h1:a.2=decide (r64 z))(h2:r64 z→a.1=z):(if a.2=true then(iV a.1,(0:Int))else(zV,140))=if r64 z then(iV z,0)else(zV,140):=by
 by_cases h:r64 z
 ·rw [h1,zb h,bk rfl,bk h,h2 h]
 ·rw [h1,zc h,aX (by decide),aX h]
theorem Ww(ht:tag=12∨tag=13∨tag=14∨tag=15)(hx:r64 x)(hy:r64 y):(if(Nz tag x y).2=true then(iV (Nz tag x y).1,(0:Int))else(zV,140))=Gc tag x y:=by
 have hw: ∀z,r64 z→IntKind.i64.wrap z=z:=fun z h=>by unfold r64 at h;exact cL h.1 h.2
 rcases ht with rfl|rfl|rfl|rfl
 ·rw [pO (Xd x y)]
  exact H8 (by rw [Tk hx hy]) (fun h=>by rw [Tk hx hy];exact hw _ h)
 ·rw [pO (Xc x y)]
  exact H8 (by rw [Ri hx hy]) (fun h=>by rw [Ri hx hy];exact hw _ h)
 ·rw [pO (Xb x y)]
  exact H8 (RL hx hy).1 (RL hx hy).2
 ·by_cases h0:y=0
  ·subst h0
   rw [GW (by rw [O8,bk rfl])]
   rfl
  ·rw [pO (z:=x.tdiv y) (by rw [O8,aX h0])]
   exact H8 (SP hx hy h0).1 (SP hx hy h0).2
end Go.Proofs.YtfhhakidodmdfaaGreatDoor

