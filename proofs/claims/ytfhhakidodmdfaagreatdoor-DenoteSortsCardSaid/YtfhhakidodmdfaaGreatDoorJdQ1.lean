/- da of this claim: K1, K2, K3, K4, L1, L2, L3, M1, M2, M3, M4, M5, M6, M7, M8, M9. -/
import Derived.Test.YtfhhakidodmdfaaGreatDoorJdF
import Derived.KernelRfl
import Derived.Test.YtfhhakidodmdfaaGreatDoorJdV4
set_option linter.all false
namespace Go.Proofs.YtfhhakidodmdfaaGreatDoor
open Go

abbrev co:=List ac
variable{n:bo}
theorem lW{n:Int}(h: -9223372036854775808≤n)(h2:n≤9223372036854775807):IntKind.i64.wrap n=n:=by
 rw [uB];omega
variable{α:Type}{xs:List α}
theorem cr{ys:List α}(h:xs.length+ys.length≤68719476736):app xs ys=some (xs++ys):=aW h
theorem Ka{i:Nat}:cE xs (i:Int)=(xs.drop i).head? :=by
 rw [bX,List.head?_drop]
def fh(v:ac):Bool:=(dh v).getD false
variable{v:ac}
theorem fk(v:ac):dh v=some (fh v):=by
 unfold fh dh
 repeat' split
 all_goals rfl
variable{k:Nat}
theorem np(v:ac):kQ v=some (if fh v then 0 else 120):=by
 obtain⟨k,n,u,s⟩:=v
 unfold fh dh kQ wR
 simp only [kh,pu,pt,pr]
 by_cases h0:k=0
 ·subst h0;simp
  repeat' split
  all_goals simp_all
 by_cases h1:k=1
 ·subst h1
  by_cases n0:n=0
  ·subst n0;simp
   repeat' split
   all_goals simp_all
  by_cases n1:n=1
  ·subst n1;simp
   repeat' split
   all_goals simp_all
  simp [n0,n1]
 by_cases h2:k=2
 ·subst h2;simp
  repeat' split
  all_goals simp_all
 by_cases h3:k=3
 ·subst h3;simp
  repeat' split
  all_goals simp_all
 by_cases h4:k=4
 ·subst h4;simp
  repeat' split
  all_goals simp_all
 simp [h0,h1,h2,h3,h4]
def cZ(r:co):Bool:=decide (r.length≤16)&&r.all fh
theorem D7(v:ac):qR v=some (!fh v):=by
 unfold qR
 rw [np]
 cases fh v<;>rfl
variable{f:α→α→Int}{l:List co}{r:List ac}
theorem B8{f:ac→Option Bool}{g:ac→Bool}(hf: ∀v,f v=some (g v))(l:co):gk l f=some (l.any g):=by
 have key: ∀(l:co) (i:Nat),(cH f l i).bind (fun r=>some (decide ((0:Int)≤r)))=some (l.any g):=by
  intro l
  induction l with
  |nil=>intro i;simp [cH]
  |cons e t ih=>intro i;simp only [cH,hf,aY];cases h:g e<;>simp [ih,h]
 exact key l 0
theorem rL(r:co):qd r=some (cZ r):=by
 unfold qd cZ
 rw [B8 (g:=fun v=> !fh v) D7]
 by_cases h:r.length≤16
 ·rw [aW (by simp;omega)]
  simp [h,List.all_eq_not_any_not]
 ·rw [aM (by simp;omega)]
  simp [h]
theorem Ec(r:co):tL r=some (cZ r):=by
 have key: ∀l:co,nv l=some (l.all fh):=by
  intro l
  induction l with
  |nil=>rfl
  |cons e t ih=>simp only [nv,fk,aY];cases h:fh e<;>simp [ih,h]
 unfold tL cZ
 rw [key]
 by_cases h:r.length≤16
 ·rw [aM (by simp;omega)]
  simp [h]
 ·rw [aW (by simp;omega)]
  simp [h]
theorem Hu(r:co):xJ r=some (if cZ r then 0 else 150):=by
 unfold xJ
 rw [rL]
 cases cZ r<;>rfl
theorem LR{r:co}(h:cZ r=true):r.length≤16:=by
 unfold cZ at h
 simp at h
 exact h.1

variable{a:ac}
theorem lj: ∀s:wz,Op.bytesLess s s=false
 |[]=>rfl
 |a::s=>by
  unfold Op.bytesLess
  simp [lj s]
def Xh:List Int→Int
 |[]=>0
 |e::t=>if e !=0 then e else Xh t
theorem BW(l:List Int):mC l=some (Xh l):=by
 unfold mC
 induction l with
 |nil=>rfl
 |cons e t ih=>simp only [ga,Xh];split<;>simp [*]
def val(x y:ac):Int:=(kU x y).getD 0
variable{x:α}
theorem sK(x y:ac):kU x y=some (val x y):=by
 unfold val kU lc
 repeat' split
 all_goals rfl
theorem Ir(p y:Int):gH p y=some (if p<y then -1 else if y<p then 1 else 0):=by
 unfold gH m9
 simp
 repeat' split
 all_goals rfl
theorem GN(p y:Int):gC p y=some (if p<y then -1 else if y<p then 1 else 0):=by
 unfold gC kK
 simp
 repeat' split
 all_goals rfl
theorem GM(p y:Int):mD p y=some (if p<y then -1 else if y<p then 1 else 0):=by
 unfold mD nX
 simp
 repeat' split
 all_goals rfl
theorem Ov(p y:wz):mE p y=some (if Op.bytesLess p y then -1 else if p=y then 0 else 1):=by
 unfold mE nY
 by_cases h:p=y
 ·subst h;simp [lj]
 ·cases h2:Op.bytesLess p y<;>simp [h]
theorem yP(x y:ac):oN x y=some (val x y):=by
 unfold oN
 rw [Ir,GN,GM,Ov]
 simp only [aY]
 rw [BW]
 unfold val kU lc
 simp only [Xh,aY]
 by_cases h1:x.Kind=y.Kind
 ·rw [h1]
  by_cases h2:x.N=y.N
  ·rw [h2]
   by_cases h3:x.U=y.U
   ·rw [h3]
    by_cases h4:x.S=y.S
    ·rw [h4];simp [lj]
    ·cases h5:Op.bytesLess x.S y.S<;>simp [h4]
   ·rcases Int.lt_or_gt_of_ne h3 with h|h
    ·simp [h3,h]
    ·have: ¬x.U<y.U:=by omega
     simp [h3,h,this]
  ·rcases Int.lt_or_gt_of_ne h2 with h|h
   ·simp [h2,h]
   ·have: ¬x.N<y.N:=by omega
    simp [h2,h,this]
 ·rcases Int.lt_or_gt_of_ne h1 with h|h
  ·simp [h1,h]
  ·have: ¬x.Kind<y.Kind:=by omega
   simp [h1,h,this]
def ek:co→co→Int
 |[],[]=>0
 |[],_::_=> -1
 |_::_,[]=>1
 |x::a,y::b=>if val x y !=0 then val x y else ek a b
theorem Ff(a b:co):cu a b oN=some (ek a b):=by
 unfold cu
 have key: ∀(l:co) (i:Nat),a.drop i=l→i≤a.length→bF a b oN l i=some (ek l (b.drop i)):=by
  intro l
  induction l with
  |nil=>
   intro i h1 h2
   have h3:a.length≤i:=Fo.1 h1
   simp only [bF]
   by_cases hlt:a.length<b.length
   ·rw [aW (by simp;omega)]
    rw [rD (by omega:i<b.length)];rfl
   ·rw [aM (by simp;omega),wG (by omega)];rfl
  |cons x t ih=>
   intro i h1 h2
   have hi:i<a.length:=by
    rcases lx i a.length with h|h
    ·exact h
    ·rw [wG h]at h1;cases h1
   simp only [bF]
   have ht:=ih (i+1) (by rw [←pp,h1];rfl) (by omega)
   rcases lx i b.length with h|h
   ·rw [aM (by simp;omega),bX,n8 h,rD h,ht]
    simp only [aY,yP,ek]
    split<;>rfl
   ·rw [aW (by simp;omega),wG h];rfl
 exact key a 0 rfl (ln _)
theorem vB(a b:co):o6 a b=some (ek a b):=by
 unfold o6
 rw [Ff a b];rfl
theorem D8(a b:co):o8 a b=some (if cZ a&&cZ b then ek a b else 0):=by
 unfold o8
 rw [rL,rL,vB]
 cases ha:cZ a<;>cases hb:cZ b<;>simp
theorem uR(a b:co)(ha:a.length<4611686018427387904):oo a b=some (ek a b):=by
 unfold oo
 have key: ∀n (i:Nat),i≤a.length→i≤b.length→a.length<i+n→lJ a b n (i:Int)=some (ek (a.drop i) (b.drop i)):=by
  intro n
  induction n with
  |zero=>intro i h1 _ h2;omega
  |succ n ih=>
   intro i h1 h2 h3
   have hw:IntKind.i64.wrap ((i:Int)+1)=((i+1:Nat):Int):=by rw [uB];omega
   simp only [lJ,hw]
   rcases lx i a.length with hi|hi
   ·rcases lx i b.length with hj|hj
    ·rw [aW (by simp;omega),bX,bX,n8 hi,n8 hj,rD hi,rD hj]
     simp only [aY,sK]
     rw [ih (i+1) (by omega) (by omega) (by omega)]
     simp only [ek]
     split<;>rfl
    ·rw [aM (by simp;omega),rD hi,wG hj,aM (by simp;omega)]
     simp only [lc]
     rw [aM (by simp;omega)]
     rfl
   ·rw [aM (by simp;omega),wG hi]
    rcases lx i b.length with hj|hj
    ·rw [rD hj,aM (by simp;omega)]
     simp only [lc]
     rw [aW (by simp;omega)]
     rfl
    ·rw [wG hj,aW (by simp;omega)]
     rfl
 have:=key ge 0 (ln _) (ln _) (by unfold ge;omega)
 simpa using this

theorem vD(a b:co):o7 a b=some (decide (a=b)):=by
 unfold o7 iT
 by_cases hl:a.length=b.length
 ·rw [aM (by simp [hl])]
  have key: ∀(l:co) (i:Nat),a.drop i=l→d4 b l i=some (decide (l=b.drop i)):=by
   intro l
   induction l with
   |nil=>
    intro i h1
    have h3:a.length≤i:=Fo.1 h1
    rw [wG (by omega)];rfl
   |cons x t ih=>
    intro i h1
    have hi:i<a.length:=by
     rcases lx i a.length with h|h
     ·exact h
     ·rw [wG h]at h1;cases h1
    have ht:=ih (i+1) (by rw [←pp,h1];rfl)
    simp only [d4]
    rw [bX,n8 (by omega),rD (by omega:i<b.length)]
    simp only [aY,ht]
    by_cases hx:x=b[i]
    ·rw [aM (by simp [hx])]
     exact congrArg some (Ac.2 ⟨fun h=>by rw [hx,h],fun h=>(Cc h).2⟩)
    ·rw [aW (by simp [hx])]
     exact congrArg some (tu (fun h=>hx (Cc h).1)).symm
  have:=key a 0 rfl
  rw [this];simp
 ·rw [aW (by simp;omega)]
  have:a≠b:=fun e=>hl (by rw [e])
  simp [this]
theorem B9(r:co)(h:r.length≤68719476736):cz r=some r:=by
 unfold cz
 rw [cr (by simpa using h)];rfl
theorem yR(l:List co)(h: ∀r∈l,r.length≤68719476736)(hl:l.length≤68719476736):sF l=some l:=by
 have key: ∀(m out:List co),(∀r∈m,r.length≤68719476736)→out.length+m.length≤68719476736→mX m out=some (out++m):=by
  intro m
  induction m with
  |nil=>intro out _ _;simp [mX]
  |cons e t ih=>
   intro out h1 h2
   simp only [iG]at h2
   simp only [mX]
   rw [B9 e (h1 e (kE ..))]
   simp only [aY]
   rw [cr (by simp;omega)]
   simp only [aY]
   rw [ih _ (fun r hr=>h1 r (kC _ hr)) (by simp;omega)]
   simp
 have:=key l [] h (by simpa using hl)
 simpa [sF] using this

structure Bi{α:Type}(f:α→α→Int):Prop where
 rng: ∀x y,f x y= -1∨f x y=0∨f x y=1
 anti: ∀x y,f y x= -f x y
 eq: ∀x y,f x y=0↔x=y
 trans: ∀x y z,f x y≤0→f y z≤0→f x z≤0
theorem Bi.lt(h:Bi f){y z:α}(h1:f x y≤0)(h2:f y z≤0)(h3:f x y<0∨f y z<0):f x z<0:=by
 have h4:=h.trans x y z h1 h2
 rcases h.rng x z with h5|h5|h5
 ·omega
 ·have e:=(h.eq x z).1 h5
  subst e
  have:=h.anti x y
  omega
 ·omega
def GO(c d:Int):Int:=if c !=0 then c else d
theorem Bi.lex{β:Type}{g:β→β→Int}(hf:Bi f)(hg:Bi g):Bi (fun(p q:α×β)=>GO (f p.1 q.1) (g p.2 q.2)) where
 rng:=fun x y=>by
  unfold GO
  split
  ·exact hf.rng _ _
  ·exact hg.rng _ _
 anti:=fun x y=>by
  have h1:=hf.anti x.1 y.1
  have h2:=hg.anti x.2 y.2
  unfold GO
  by_cases h:f x.1 y.1=0
  ·have:f y.1 x.1=0:=by omega
   simp [h,this,h2]
  ·have:f y.1 x.1≠0:=by omega
   simp [h,h1]
 eq:=fun x y=>by
  unfold GO
  by_cases h:f x.1 y.1=0
  ·have e:=(hf.eq _ _).1 h
   simp only [h,yI,gh,ez]
   rw [hg.eq]
   exact⟨fun h2=>Prod.ext e h2,fun h2=>by rw [h2]⟩
  ·simp only [qN,o0,h,Ch,fe,false_iff]
   intro e
   exact h ((hf.eq _ _).2 (by rw [e]))
 trans:=fun x y z=>by
  unfold GO
  by_cases h1:f x.1 y.1=0
  ·have e:=(hf.eq _ _).1 h1
   simp only [h1,yI,gh,ez]
   rw [←e]
   by_cases h2:f x.1 z.1=0
   ·simp only [h2,yI,gh,ez]
    exact hg.trans _ _ _
   ·simp only [qN,o0,h2,Ch,fe]
    exact fun _ h=>h
  ·simp only [qN,o0,h1,Ch,fe]
   by_cases h2:f y.1 z.1=0
   ·have e:=(hf.eq _ _).1 h2
    have h5:f x.1 z.1≠0:=by rw [←e];exact h1
    simp only [h5,Ch,fe]
    intro h _
    rw [←e];exact h
   ·simp only [h2,Ch,fe]
    intro h3 h4
    have:=hf.lt h3 h4 (by omega)
    simp only [show f x.1 z.1≠0 from by omega,Ch,fe]
    omega
def KA(p y:Int):Int:=if p<y then -1 else if y<p then 1 else 0
theorem mS:Bi KA where
 rng:=fun x y=>by
  unfold KA
  repeat' split
  all_goals omega
 anti:=fun x y=>by unfold KA;repeat' split;all_goals omega
 eq:=fun x y=>by
  unfold KA
  constructor
  ·intro h;repeat' split at h
   all_goals omega
  ·intro h;subst h;simp
 trans:=fun x y z=>by
  unfold KA
  repeat' split
  all_goals omega
theorem y5: ∀a b:wz,Op.bytesLess a b=false→Op.bytesLess b a=false→a=b
 |[],[],_,_=>rfl
 |[],_::_,h,_=>by simp [Op.bytesLess]at h
 |_::_,[],_,h=>by simp [Op.bytesLess]at h
 |x::a,y::b,h,k=>by
  simp only [Op.bytesLess,Bool.or_eq_false_iff,Fp,Bool.and_eq_false_imp,ss]at h k
  have e:x=y:=by
   have h1:=h.1
   have h2:=k.1
   exact UInt8.le_antisymm (UInt8.not_lt.1 h2) (UInt8.not_lt.1 h1)
  subst e
  rw [y5 a b (h.2 rfl) (k.2 rfl)]
theorem rr: ∀a b c:wz,Op.bytesLess a b=true→Op.bytesLess b c=true→Op.bytesLess a c=true
 |_,[],_,h,_=>by cases ‹List UInt8› <;>simp [Op.bytesLess]at h
 |_,_::_,[],_,h=>by simp [Op.bytesLess]at h
 |[],_::_,_::_,_,_=>rfl
 |x::a,y::b,z::c,h,k=>by
  simp only [Op.bytesLess,pi,kZ,lr,ss]at h k ⊢
  rcases h with h|⟨h1,h2⟩
  ·rcases k with k|⟨k1,_⟩
   ·exact .inl (UInt8.lt_trans h k)
   ·subst k1;exact .inl h
  ·subst h1
   rcases k with k|⟨k1,k2⟩
   ·exact .inl k
   ·exact .inr ⟨k1,rr a b c h2 k2⟩
def PK(p y:wz):Int:=if Op.bytesLess p y then -1 else if p=y then 0 else 1
theorem EU{a b:wz}(h:Op.bytesLess a b=true):Op.bytesLess b a=false:=by
 cases k:Op.bytesLess b a with
 |false=>rfl
 |true=>have:=rr a b a h k;rw [lj]at this;cases this
theorem A9:Bi PK where
 rng:=fun x y=>by
  unfold PK
  split
  ·exact .inl rfl
  split
  ·exact .inr (.inl rfl)
  ·exact .inr (.inr rfl)
 anti:=fun x y=>by
  unfold PK
  cases h:Op.bytesLess x y with
  |true=>
   have h2:=EU h
   have:y≠x:=fun e=>by rw [e,lj]at h;cases h
   simp [h2,this]
  |false=>
   cases k:Op.bytesLess y x with
   |true=>
    have:x≠y:=fun e=>by rw [e,lj]at k;cases k
    simp [this]
   |false=>have:=y5 x y h k;simp [this]
 eq:=fun x y=>by
  unfold PK
  constructor
  ·intro h;repeat' split at h
   all_goals simp_all
  ·intro h;subst h;simp [lj]
 trans:=fun x y z=>by
  unfold PK
  intro h1 h2
  cases hxy:Op.bytesLess x y with
  |true=>
   cases hyz:Op.bytesLess y z with
   |true=>simp [rr x y z hxy hyz]
   |false=>
    rw [hyz]at h2
    by_cases e:y=z
    ·subst e;simp [hxy]
    ·simp [e]at h2
  |false=>
   rw [hxy]at h1
   by_cases e:x=y
   ·subst e;exact h2
   ·simp [e]at h1
def key(v:ac):Int×Int×Int×wz:=(v.Kind,v.N,v.U,v.S)
theorem YR(a b c d:Int):Xh [a,b,c,d]=GO a (GO b (GO c d)):=by
 simp only [Xh,GO]
 by_cases h:d=0
 ·simp [h]
 ·simp [h]
theorem sC(x y:ac):val x y=GO (KA x.Kind y.Kind) (GO (KA x.N y.N) (GO (KA x.U y.U) (PK x.S y.S))):=by
 have h:=yP x y
 unfold oN at h
 rw [Ir,GN,GM,Ov]at h
 simp only [aY]at h
 rw [BW]at h
 simp only [aY,Ag]at h
 rw [←h,YR]
 rfl
theorem qD:Bi val where
 rng:=fun x y=>by rw [sC];exact(mS.lex (mS.lex (mS.lex A9))).rng (key x) (key y)
 anti:=fun x y=>by rw [sC,sC];exact(mS.lex (mS.lex (mS.lex A9))).anti (key x) (key y)
 eq:=fun x y=>by
  rw [sC]
  refine((mS.lex (mS.lex (mS.lex A9))).eq (key x) (key y)).trans ⟨fun h=>?_,fun h=>by rw [h]⟩
  cases x;cases y
  simp only [key,Prod.mk.injEq]at h
  simp [h]
 trans:=fun x y z=>by rw [sC,sC,sC];exact(mS.lex (mS.lex (mS.lex A9))).trans (key x) (key y) (key z)
theorem i8:Bi ek where
 rng:=by
  intro x
  induction x with
  |nil=>intro y;cases y<;>simp [ek]
  |cons a x ih=>
   intro y
   cases y with
   |nil=>simp [ek]
   |cons b y=>
    simp only [ek]
    split
    ·exact qD.rng a b
    ·exact ih y
 anti:=by
  intro x
  induction x with
  |nil=>intro y;cases y<;>simp [ek]
  |cons a x ih=>
   intro y
   cases y with
   |nil=>simp [ek]
   |cons b y=>
    simp only [ek]
    have h:=qD.anti a b
    by_cases h1:val a b=0
    ·have h2:val b a=0:=by omega
     simp [h1,h2,ih y]
    ·have h2:val b a≠0:=by omega
     simp [h1,h]
 eq:=by
  intro x
  induction x with
  |nil=>intro y;cases y<;>simp [ek]
  |cons a x ih=>
   intro y
   cases y with
   |nil=>simp [ek]
   |cons b y=>
    simp only [ek]
    by_cases h1:val a b=0
    ·have e:=(qD.eq a b).1 h1
     subst e
     simp [h1,ih y]
    ·have e:a≠b:=fun e=>h1 ((qD.eq a b).2 e)
     simp [h1,e]
 trans:=by
  intro x
  induction x with
  |nil=>intro y z;cases y<;>cases z<;>simp [ek]
  |cons a x ih=>
   intro y z
   cases y with
   |nil=>simp [ek]
   |cons b y=>
    cases z with
    |nil=>simp [ek]
    |cons c z=>
     simp only [ek]
     by_cases h1:val a b=0
     ·have e:=(qD.eq a b).1 h1
      subst e
      by_cases h2:val a c=0
      ·simp [h1,h2];exact ih y z
      ·simp [h1,h2]
     ·by_cases h2:val b c=0
      ·have e:=(qD.eq b c).1 h2
       subst e
       simp only [h1,h2,qN,o0,Ch,fe]
       simp only [IJ,ez]
       exact fun h _=>h
      ·simp only [h1,h2,qN,o0,Ch,fe]
       intro h3 h4
       have:=qD.lt h3 h4 (by omega)
       rw [aW (by omega)]
       omega

section
def ST(f:α→α→Int)(x y:α):Bool:=decide (f x y<0)
theorem Bi.self(h:Bi f)(x:α):f x x=0:=(h.eq x x).2 rfl
def nZ(f:α→α→Int)(l:List α):Prop:=l.Pairwise (fun a b=>f a b≤0)
theorem ul(h:Bi f){a b:List α}(ha:nZ f a)(hb:nZ f b)(hp:a.Perm b):a=b:=
 List.Perm.eq_of_pairwise (le:=fun x y=>f x y≤0) (fun x y _ _ h1 h2=>(h.eq x y).1 (by have:=h.anti x y;omega)) ha hb hp
theorem xv(h:Bi f){c:α×α→Option Int}(hc: ∀x y,c (x,y)=some (f x y)){l:List α}(hl:l.length≤1099511627776):zT c l:=by
 have hlt: ∀x y,ut c x y=ST f x y:=fun x y=>by unfold ut ST;rw [hc]
 refine⟨hl,fun x _ y _=>by rw [hc];rfl,fun x _=>by rw [hlt];unfold ST;rw [h.self];rfl,fun x _ y _ z _ h1 h2=>?_,fun x _ y _ h1 h2=>?_⟩
 ·rw [hlt]at*
  unfold ST at*
  have h1' :=IN h1
  have h2' :=IN h2
  exact ug (h.lt (by omega) (by omega) (.inl h1'))
 ·rw [hlt]at*
  unfold ST at*
  have h1' :=of_decide_eq_false h1
  have h2' :=of_decide_eq_false h2
  have:=h.anti x y
  exact(h.eq x y).1 (by omega)
def tt(f:α→α→Int)(l:List α):List α:=yW (ST f) l
theorem lB(f:α→α→Int)(l:List α):(tt f l).Perm l:=sU _ l
theorem vy(h:Bi f)(l:List α)(hl:l.length≤1099511627776):nZ f (tt f l):=by
 have hg:=xv h (c:=fun p=>some (f p.1 p.2)) (fun _ _=>rfl) hl
 have:=vK hg l (fun y hy=>hy)
 have e:ut (fun p:α×α=>some (f p.1 p.2))=ST f:=by funext x y;rfl
 rw [e]at this
 refine this.imp fun{a b} hab=>?_
 unfold ST at hab
 have h1:=of_decide_eq_false hab
 have:=h.anti b a
 omega
theorem O8 [DecidableEq α](h:Bi f){c:α×α→Option Int}(hc: ∀x y,c (x,y)=some (f x y)){l:List α}(hl:l.length≤1099511627776):yO c l=some (tt f l):=by
 rw [DO (xv h hc hl)]
 have e:ut c=ST f:=by funext x y;unfold ut ST;rw [hc]
 rw [e];rfl
def put(f:α→α→Int)(x:α):List α→List α
 |[]=>[x]
 |y::l=>if f x y<0 then x::y::l else y::put f x l
theorem Ax(f:α→α→Int)(x:α): ∀l:List α,(put f x l).Perm (x::l)
 |[]=> .refl _
 |y::l=>by
  unfold put
  split
  ·exact .refl _
  ·exact((Ax f x l).cons y).trans (.swap ..)
theorem Ef(h:Bi f)(x:α): ∀l:List α,nZ f l→nZ f (put f x l)
 |[],_=>List.pairwise_singleton _ _
 |y::l,hl=>by
  have hl' :=yp.1 hl
  unfold put
  split
  ·rename_i hlt
   refine yp.2 ⟨fun z hz=>?_,hl⟩
   rcases fF.1 hz with rfl|hz
   ·omega
   ·exact h.trans x y z (by omega) (hl'.1 z hz)
  ·rename_i hlt
   refine yp.2 ⟨fun z hz=>?_,Ef h x l hl'.2⟩
   rcases fF.1 ((Ax f x l).mem_iff.1 hz)with rfl|hz
   ·have:=h.anti z y;omega
   ·exact hl'.1 z hz
def BE(f:α→α→Int):List α→List α→List α
 |[],out=>out
 |x::l,out=>BE f l (put f x out)
theorem Cs(f:α→α→Int): ∀l out:List α,(BE f l out).Perm (out++l)
 |[],out=>by simp [BE]
 |x::l,out=>(Cs f l _).trans (((Ax f x out).append_right l).trans (by simpa using (List.perm_middle (a:=x) (l₁:=out) (l₂:=l)).symm))
theorem yV(h:Bi f): ∀l out:List α,nZ f out→nZ f (BE f l out)
 |[],_,ho=>ho
 |x::l,out,ho=>yV h l _ (Ef h x out ho)
theorem Pf(h:Bi f)(l:List α)(hl:l.length≤1099511627776):BE f l []=tt f l:=
 ul h (yV h l [] List.Pairwise.nil) (vy h l hl) ((Cs f l []).trans (by simpa using (lB f l).symm))
theorem xC(f:α→α→Int)(l:List α):(tt f l).length=l.length:=(lB f l).length_eq
end
def s8{α:Type} [DecidableEq α]:α→List α→List α
 |_,[]=>[]
 |p,x::t=>if x=p then s8 x t else x::s8 x t
theorem A7 [DecidableEq α](p:α):s8 p []=[]:=by unfold s8;rfl
theorem ya [DecidableEq α]{p:α}(h:x=p)(t:List α):s8 p (x::t)=s8 x t:=by
 conv=>lhs;unfold s8
 rw [aW h]
theorem Dk [DecidableEq α]{p:α}(h: ¬x=p)(t:List α):s8 p (x::t)=x::s8 x t:=by
 conv=>lhs;unfold s8
 rw [aM h]
def uc{α:Type} [DecidableEq α]:List α→List α
 |[]=>[]
 |x::t=>x::s8 x t
theorem Kv{α:Type} [DecidableEq α]: ∀(p:α) (l:List α),(s8 p l).length≤l.length
 |_,[]=>dF _
 |p,x::t=>by
  unfold s8
  have:=Kv x t
  split<;>simp<;>omega
theorem PI [DecidableEq α](l:List α):(uc l).length≤l.length:=by
 cases l with
 |nil=>exact dF _
 |cons x t=>have:=Kv x t;simp [uc];omega
theorem ES{α:Type} [DecidableEq α]: ∀(p:α) (l:List α) (z:α),z∈s8 p l→z∈l
 |p,x::t,z,h=>by
  unfold s8 at h
  split at h
  ·exact kC _ (ES x t z h)
  ·rcases fF.1 h with rfl|h
   ·exact kE ..
   ·exact kC _ (ES x t z h)
theorem Es{α:Type} [DecidableEq α]: ∀(p:α) (l:List α) (z:α),z∈l→z=p∨z∈s8 p l
 |p,x::t,z,h=>by
  unfold s8
  by_cases hx:x=p
  ·rw [aW hx]
   rcases fF.1 h with rfl|h
   ·exact .inl hx
   ·rcases Es x t z h with h|h
    ·exact .inl (h.trans hx)
    ·exact .inr h
  ·rw [aM hx]
   rcases fF.1 h with rfl|h
   ·exact .inr (kE ..)
   ·rcases Es x t z h with h|h
    ·exact .inr (by rw [h];exact kE ..)
    ·exact .inr (kC _ h)
theorem xQ [DecidableEq α](l:List α)(z:α):z∈uc l↔z∈l:=by
 cases l with
 |nil=>exact Iff.rfl
 |cons x t=>
  constructor
  ·intro h
   rcases fF.1 h with rfl|h
   ·exact kE ..
   ·exact kC _ (ES x t z h)
  ·intro h
   rcases fF.1 h with rfl|h
   ·exact kE ..
   ·rcases Es x t z h with rfl|h
    ·exact kE ..
    ·exact kC _ h
theorem xo{α:Type} [DecidableEq α]{f:α→α→Int}(hf:Bi f): ∀(p:α) (l:List α),nZ f (p::l)→(p::s8 p l).Pairwise (fun a b=>f a b<0)
 |p,[],_=>List.pairwise_singleton _ _
 |p,x::t,h=>by
  have h1:=yp.1 h
  unfold s8
  by_cases hx:x=p
  ·rw [aW hx]
   subst hx
   exact xo hf x t h1.2
  ·rw [aM hx]
   have h2:=xo hf x t h1.2
   have hlt:f p x<0:=by
    have:=h1.1 x (kE ..)
    rcases Int.lt_or_eq_of_le this with h|h
    ·exact h
    ·exact absurd ((hf.eq p x).1 h).symm hx
   refine yp.2 ⟨fun z hz=>?_,h2⟩
   rcases fF.1 hz with rfl|hz
   ·exact hlt
   ·exact hf.lt (by omega) (by have:=(yp.1 h2).1 z hz;omega) (.inl hlt)
theorem Io [DecidableEq α](hf:Bi f){l:List α}(h:nZ f l):(uc l).Pairwise (fun a b=>f a b<0):=by
 cases l with
 |nil=>exact List.Pairwise.nil
 |cons x t=>exact xo hf x t h

abbrev Xc:=i8
def V1(n:Nat):Int:=if 8000<n then 3 else 0
def TD:List (List co)→Nat→Nat
 |[],n=>n
 |l::t,n=>TD t (max n l.length)
def p5(l:List co):Bool:=l.all cZ
def YB(ls:List (List co)):Int:=if ls.all p5 then V1 (TD ls 0)else 150
theorem vC(ls:List (List co)):uP ls=some (YB ls):=by
 have key2: ∀(l:List co) (nx:Int→Option Int) (e:List co) (n:Int),pz nx e n l=if p5 l then nx (max n (e.length:Int))else some 150:=by
  intro l
  induction l with
  |nil=>intro nx e n;rfl
  |cons r t ih=>
   intro nx e n
   have ih' :=ih nx e n
   unfold pz
   rw [rL]
   simp only [aY]
   rw [ih']
   unfold p5
   cases h:cZ r<;>simp [h]
 have key: ∀(ls:List (List co)) (n:Nat),kT ls (n:Int)=some (if ls.all p5 then V1 (TD ls n)else 150):=by
  intro ls
  induction ls with
  |nil=>
   intro n
   show kT [] (n:Int)=some (V1 n)
   unfold kT V1
   by_cases h:8000<n
   ·rw [aW (by simp;omega),aW h]
   ·rw [aM (by simp;omega),aM h]
  |cons l t ih=>
   intro n
   unfold kT
   rw [key2,show max (n:Int) (l.length:Int)=((max n l.length:Nat):Int)from by omega,ih]
   show _=some (if(p5 l&&t.all p5)=true then V1 (TD t (max n l.length))else 150)
   cases h:p5 l<;>simp
 exact key ls 0
theorem Q6{n:Nat}(h:n≤8000):V1 n=0:=by unfold V1;rw [aM (by omega)]
theorem Hi(l:List co)(h:l.length≤8000):YB [l]=if p5 l then 0 else 150:=by
 show(if(p5 l&&true)=true then V1 (max 0 l.length)else 150)=_
 rw [Q6 (by omega),yH]
structure GT(l:List co):Prop where
 len:l.length≤8000
 row: ∀r∈l,r.length≤1000
abbrev zi(l:List co):List co:=tt ek l
theorem yQ(h:GT l):sE l=some (zi l):=by
 unfold sE
 rw [yR l (fun r hr=>by have:=h.row r hr;omega) (by have:=h.len;omega)]
 simp only [aY]
 rw [O8 Xc (fun x y=>vB x y) (by have:=h.len;omega)]
 rfl
theorem FD(h:GT l):vE l=some (if p5 l then(zi l,0)else([],150)):=by
 unfold vE
 rw [vC,Hi l h.len,yQ h]
 cases p5 l<;>rfl
theorem cx{n:Int}(h: -9223372036854775808≤n)(h2:n≤9223372036854775807):IntKind.i64.wrap n=n:=by rw [uB];omega
theorem lC{l m:Nat}(h:l≤m)(h2:m≤xs.length):dx xs (l:Int) (m:Int)=some ((xs.take m).drop l):=by
 unfold dx
 rw [aW (by omega)]
 simp
theorem MJ(p:List co)(hp:p.length≤8000)(i:Nat)(y:List co)(hy:i+y.length=p.length): ∀(k i1:Nat) (x:List co) (x1:Nat),i1+k=y.length→0<i1→x.length=p.length→x1+1≤i+i1→x.drop (i+i1-1)=p.drop (i+i1-1)→
  ce o7 i y k i1 x (x1:Int)=some (x.take x1++s8 ((p[i+i1-1]?).getD []) (p.drop (i+i1))):=by
 intro k
 induction k with
 |zero=>
  intro i1 x x1 h1 h0 hx h2 h3
  simp only [ce]
  have hx1:x1≤x.length:=by omega
  rw [lC hx1 (dF _)]
  simp only [aY,wK,yn]
  rw [show((0:Int))=((0:Nat):Int)from rfl,lC (ln _) (by simp;omega)]
  simp only [aY,wB]
  have hn:p.drop (i+i1)=[]:=wG (by omega)
  rw [hn,A7,su,CP (by simp;omega),Bm,Nat.min_self]
 |succ k ih=>
  intro i1 x x1 h1 h0 hx h2 h3
  have e1:x[i+i1]? =p[i+i1]? :=by
   have:=congrArg (fun l:List co=>l[1]?) h3
   simp only [wF]at this
   rwa [show i+i1-1+1=i+i1 from by omega]at this
  have e0:x[i+i1-1]? =p[i+i1-1]? :=by
   have:=congrArg (fun l:List co=>l[0]?) h3
   simpa only [wF,ym] using this
  have hlt:i+i1<p.length:=by omega
  have g1:xg x (i:Int) y.length (i1:Int)=some p[i+i1]:=by
   unfold xg
   rw [aW (by omega),show(i:Int)+(i1:Int)=((i+i1:Nat):Int)from by omega,bX,e1,n8 hlt]
  have g0:xg x (i:Int) y.length (IntKind.i64.wrap ((i1:Int)-1))=some p[i+i1-1]:=by
   rw [cx (by omega) (by omega)]
   unfold xg
   rw [aW (by omega),show(i:Int)+((i1:Int)-1)=((i+i1-1:Nat):Int)from by omega,bX,e0,n8 (by omega)]
  have hd:p.drop (i+i1)=p[i+i1]::p.drop (i+i1+1):=rD hlt
  have hp1:(p[i+i1-1]?).getD []=p[i+i1-1]:=by rw [n8 (by omega)];rfl
  simp only [ce,g1,g0,aY,vD]
  rw [hd,hp1]
  by_cases hx2:p[i+i1]=p[i+i1-1]
  ·rw [aM (by simp [hx2])]
   have h3' :x.drop (i+(i1+1)-1)=p.drop (i+(i1+1)-1):=by
    have:=congrArg (List.drop 1) h3
    rwa [pp,pp,show i+i1-1+1=i+(i1+1)-1 from by omega]at this
   rw [ih (i1+1) x x1 (by omega) (by omega) hx (by omega) h3']
   rw [ya hx2,show i+(i1+1)-1=i+i1 from by omega,n8 hlt,show i+(i1+1)=i+i1+1 from by omega]
   rfl
  ·rw [aW (by simp [hx2]),bX,n8 (by omega)]
   simp only [aY,yn]
   rw [cx (by omega) (by omega),show((x1:Int)+1)=((x1+1:Nat):Int)from by omega]
   have h3' :(x.set x1 p[i+i1]).drop (i+(i1+1)-1)=p.drop (i+(i1+1)-1):=by
    rw [List.drop_set_of_lt (by omega)]
    have:=congrArg (List.drop 1) h3
    rwa [pp,pp,show i+i1-1+1=i+(i1+1)-1 from by omega]at this
   rw [ih (i1+1) _ (x1+1) (by omega) (by omega) (by simpa using hx) (by omega) h3']
   rw [Dk hx2,show i+(i1+1)-1=i+i1 from by omega,n8 hlt,show i+(i1+1)=i+i1+1 from by omega]
   have ht:(x.set x1 p[i+i1]).take (x1+1)=x.take x1++[p[i+i1]]:=by
    rw [Lh (by simp;omega),List.take_set_of_le (by omega)]
    simp
   rw [ht]
   simp
theorem MK(p:List co)(hp:p.length≤8000):eY p o7=some (uc p):=by
 unfold eY
 by_cases h2:p.length<2
 ·rw [aW (by simp;omega)]
  match p,h2 with
  |[],_=>rfl
  |[x],_=>rfl
 ·rw [aM (by simp;omega)]
  have key: ∀(l:List co) (i:Nat),p.drop i=l→0<i→i≤p.length→uc p=p.take i++s8 ((p[i-1]?).getD []) (p.drop i)→cI p o7 l i=some (uc p):=by
   intro l
   induction l with
   |nil=>
    intro i h1 h0 hle h3
    have:=Fo.1 h1
    simp only [cI]
    rw [h3,h1,rC (by omega),A7,su]
   |cons x t ih=>
    intro i h1 h0 hle h3
    have hi:i<p.length:=by
     rcases lx i p.length with h|h
     ·exact h
     ·rw [wG h]at h1;cases h1
    have hx:x=p[i]:=by rw [rD hi]at h1;exact(Cc h1).1.symm
    have ht:p.drop (i+1)=t:=by rw [←pp,h1];rfl
    have hp1:(p[i-1]?).getD []=p[i-1]:=by rw [n8 (by omega)];rfl
    simp only [cI]
    rw [cx (by omega) (by omega),show(i:Int)-1=((i-1:Nat):Int)from by omega,bX,n8 (by omega)]
    simp only [aY,vD]
    by_cases he:x=p[i-1]
    ·rw [aW (by simp [he])]
     rw [lC hle (dF _)]
     simp only [aY,wK]
     rw [MJ p hp i (p.drop i) (by simp;omega) _ 1 p i (by simp;omega) (by omega) rfl (by omega) (by simp)]
     rw [h3,h1,hp1,ya he,←ht,hx]
     rw [show i+1-1=i from by omega,n8 hi];rfl
    ·rw [aM (by simp [he])]
     refine ih (i+1) ht (by omega) (by omega) ?_
     rw [h3,h1,hp1,Dk he,Lh hi,←ht,hx,show i+1-1=i from by omega,n8 hi]
     rw [jv];rfl
  have hpc:p=p[0]::p.drop 1:=by
   have:=rD (l:=p) (i:=0) (by omega)
   simpa using this
  refine key (p.drop 1) 1 rfl (by omega) (by omega) ?_
  have e:(p[1-1]?).getD []=p[0]:=by simp [n8 (show 0<p.length by omega)]
  rw [e]
  conv=>lhs;rw [hpc]
  have e2:p.take 1=[p[0]]:=by
   conv=>lhs;rw [hpc]
   rfl
  rw [e2];rfl
theorem CW(h:GT l):rM l=some (if p5 l then(uc (zi l),0)else([],150)):=by
 unfold rM
 rw [vC,Hi l h.len,yQ h]
 simp only [aY]
 rw [MK _ (by rw [xC];exact h.len)]
 cases p5 l<;>rfl

theorem FN(a b:List co)(ha: ∀r∈a,r.length≤1000):vF a b=some (decide (a=b)):=by
 unfold vF
 by_cases hl:a.length=b.length
 ·rw [aM (by simp [hl])]
  have key: ∀(l:List co) (i:Nat),a.drop i=l→(∀r∈l,r.length≤1000)→om b l i=some (decide (l=b.drop i)):=by
   intro l
   induction l with
   |nil=>
    intro i h1 _
    have h3:a.length≤i:=Fo.1 h1
    rw [wG (by omega)];rfl
   |cons x t ih=>
    intro i h1 hr
    have hi:i<a.length:=by
     rcases lx i a.length with h|h
     ·exact h
     ·rw [wG h]at h1;cases h1
    have ht:=ih (i+1) (by rw [←pp,h1];rfl) (fun r hm=>hr r (kC _ hm))
    simp only [om]
    rw [bX,n8 (by omega),rD (by omega:i<b.length)]
    simp only [aY,ht]
    rw [uR _ _ (by have:=hr x (kE ..);omega)]
    simp only [aY]
    by_cases hx:x=b[i]
    ·rw [aM (by rw [hx];simp [Xc.self])]
     exact congrArg some (Ac.2 ⟨fun h=>by rw [hx,h],fun h=>(Cc h).2⟩)
    ·rw [aW (by simpa using fun h=>hx ((Xc.eq x b[i]).1 h))]
     exact congrArg some (tu (fun h=>hx (Cc h).1)).symm
  have:=key a 0 rfl ha
  rw [this];simp
 ·rw [aW (by simp;omega)]
  have:a≠b:=fun e=>hl (by rw [e])
  simp [this]
theorem VM(n:Int)(h0:0≤n)(h:n≤68719476736):gZ n=some []:=by
 unfold gZ iS
 rw [aM (by simp;omega)]
 have e:IntKind.i64.wrap (n-IntKind.i64.wrap ((0:Int)-0))=n:=by
  rw [cx (n:=(0:Int)-0) (by omega) (by omega),cx (by omega) (by omega)];omega
 rw [e]
 by_cases hp:0<n
 ·rw [aW (by simpa using hp)]
  unfold V4 nk
  rw [aW hp]
  simp only [aY]
  rw [aW ⟨h0,h⟩]
  simp only [aY]
  rw [show dx (List.replicate n.toNat ([]:co)) 0 0=some []from by unfold dx;rw [aW (by simp;omega)];simp]
  rfl
 ·rw [aM (by simpa using hp)];rfl
theorem M0(a b:List co)(ha:a.length≤8000)(hb:b.length≤8000):eQ [a,b]=some (a++b):=by
 unfold eQ
 simp only [fJ]
 rw [cx (n:=(0:Int)+(a.length:Int)) (by omega) (by omega),aM (by simp),cx (by omega) (by omega),aM (by simp;omega),VM _ (by omega) (by omega)]
 simp only [aY,fI]
 rw [cr (by simp;omega)]
 simp only [aY,kz]
 rw [cr (by omega)]
 rfl

theorem lD{i j:Int}(l m:Nat)(hi:i=(l:Int))(hj:j=(m:Int))(h:l≤m)(h2:m≤xs.length):dx xs i j=some ((xs.take m).drop l):=by
 subst hi hj;exact lC h h2
theorem gM{i:Int}(k:Nat)(hi:i=(k:Int)):cE xs i=xs[k]? :=by subst hi;exact bX _ _
def mt(v:ac):Bool:=fh v&&(v.Kind !=4)
theorem sy(v:ac):lX v=some (mt v):=by
 unfold lX mt
 rw [np]
 cases fh v<;>simp
theorem jl(v:ac):lZ v=some (mt v):=by
 unfold lZ mt
 rw [fk]
 rfl
theorem Ju(h:mt v=true):0≤v.Kind∧v.Kind≤3:=by
 obtain⟨k,n,u,s⟩:=v
 unfold mt fh dh at h
 simp only [lr,qN,o0]at h
 obtain⟨h1,h2⟩:=h
 by_cases h0:k=0
 ·simp [h0]
 by_cases k1:k=1
 ·simp [k1]
 by_cases k2:k=2
 ·simp [k2]
 by_cases k3:k=3
 ·simp [k3]
 simp [h0,k1,k2,k3,h2]at h1
def pk(tag:Int):Option Nat:=if tag=1∨tag=2 then some 0 else if 4≤tag∧tag≤7 then some 1 else if 12≤tag∧tag≤23 then some 2 else none
def HE(tag:Int):Int:=match pk tag with
 |some k=>(k:Int)
 |none=> -1
variable{tag:Int}
theorem yY(tag:Int):oY tag=some (HE tag):=by
 unfold oY HE pk
 by_cases h1:tag=1∨tag=2
 ·rw [aW h1,aW (by simpa using h1)];rfl
 rw [aM h1,aM (by simpa using h1)]
 by_cases h2:4≤tag∧tag≤7
 ·rw [aW h2,aW (by simpa using h2)];rfl
 rw [aM h2,aM (by simpa using h2)]
 by_cases h3:12≤tag∧tag≤23
 ·rw [aW h3,aW (by simpa using h3)];rfl
 rw [aM h3,aM (by simpa using h3)]
theorem pD(tag:Int):w8 tag=some (HE tag):=by
 unfold w8 Cr HE pk
 by_cases h1:tag=1∨tag=2
 ·rw [aW h1];rcases h1 with rfl|rfl<;>rfl
 rw [aM h1]
 by_cases h2:4≤tag∧tag≤7
 ·rw [aW h2]
  have:tag=4∨tag=5∨tag=6∨tag=7:=by omega
  rcases this with rfl|rfl|rfl|rfl<;>rfl
 rw [aM h2]
 by_cases h3:12≤tag∧tag≤23
 ·rw [aW h3,aM (by simp;omega),aM (by simp;omega),aM (by simp;omega),aM (by simp;omega)];rfl
 rw [aM h3]
 by_cases h4:tag=3∨(8≤tag∧tag≤11)
 ·rw [aW (by simpa using h4)]
 rw [aM (by simpa using h4),aW (by simp;omega)]
 rfl
def IG(n:bo):Bool:=(mo n).getD false
theorem jz(n:bo):mo n=some (IG n):=by
 unfold IG mo
 rw [jl]
 split
 ·rfl
 ·split<;>rfl
theorem EN(n:bo):t6 n=some (IG n):=by
 rw [←jz]
 unfold t6 mo
 rw [jl,sy]
inductive Tr where
 |lf (n:bo)
 |un (n:bo) (a:Tr)
 |bi (n:bo) (a b:Tr)
 deriving Inhabited
def Tr.size:Tr→Nat
 | .lf _=>1
 | .un _ a=>a.size+1
 | .bi _ a b=>a.size+b.size+1
def gT(n:bo)(l r:Int):bo:={n with L:=l,R:=r}
def Tr.flat:Tr→Nat→List bo
 | .lf n,_=>[gT n (-1) (-1)]
 | .un n a,s=>a.flat s++[gT n ((s+a.size:Nat)-1) (-1)]
 | .bi n a b,s=>a.flat s++b.flat (s+a.size)++[gT n ((s+a.size:Nat)-1) ((s+a.size+b.size:Nat)-1)]
def Xk(k:Nat)(n:bo):Prop:=pk n.Tag=some k∧IG n=true∧n.L= -1∧n.R= -1
def Tr.wf:Tr→Prop
 | .lf n=>Xk 0 n
 | .un n a=>Xk 1 n∧a.wf
 | .bi n a b=>Xk 2 n∧a.wf∧b.wf
theorem Tr.size_pos(t:Tr):0<t.size:=by cases t<;>simp [Tr.size]
theorem Tr.flat_len(t:Tr): ∀s,(t.flat s).length=t.size:=by
 induction t with
 |lf n=>intro s;rfl
 |un n a ih=>intro s;simp [Tr.flat,Tr.size,ih]
 |bi n a b iha ihb=>intro s;simp [Tr.flat,Tr.size,iha,ihb];omega
def bZ:List Tr→Nat
 |[]=>0
 |t::st=>bZ st+t.size
def wj:List Tr→List bo
 |[]=>[]
 |t::st=>wj st++t.flat (bZ st)
theorem GD: ∀st:List Tr,(wj st).length=bZ st
 |[]=>rfl
 |t::st=>by simp [wj,bZ,GD st,t.flat_len]
theorem Gh: ∀st:List Tr,st.length≤bZ st
 |[]=>dF _
 |t::st=>by have:=Gh st;have:=t.size_pos;simp [bZ];omega
def push(st:List Tr)(n:bo):Option (List Tr):=
 match pk n.Tag,st with
 |some 0,st=>if IG n&&n.L== -1&&n.R== -1 then some (.lf (gT n (-1) (-1))::st)else none
 |some 1,a::st=>if IG n&&n.L==((bZ st+a.size:Nat):Int)-1&&n.R== -1 then some (.un (gT n (-1) (-1)) a::st)else none
 |some 2,b::a::st=>if IG n&&n.L==((bZ st+a.size:Nat):Int)-1&&n.R==((bZ st+a.size+b.size:Nat):Int)-1 then some (.bi (gT n (-1) (-1)) a b::st)else none
 |_,_=>none
def pb:List bo→List Tr→Option (List Tr)
 |[],st=>some st
 |n::ns,st=>(push st n).bind (pb ns)
def wfs(st:List Tr):Prop:= ∀t∈st,t.wf
theorem xM{l r:Int}(h:n.L=l)(h2:n.R=r):gT (gT n (-1) (-1)) l r=n:=by subst h h2;rfl
theorem Pg{st st' :List Tr}(h:push st n=some st')(hw:wfs st):wj st' =wj st++[n]∧bZ st' =bZ st+1∧wfs st' :=by
 unfold push at h
 split at h
 ·rename_i k st0 hk
  split at h
  ·rename_i hc
   simp only [lr,ss]at hc
   obtain⟨⟨h1,h2⟩,h3⟩:=hc
   cases h
   refine⟨?_,rfl,fun t ht=>?_⟩
   ·simp only [wj,Tr.flat]
    rw [xM h2 h3]
   ·rcases fF.1 ht with rfl|ht
    ·exact⟨hk,h1,rfl,rfl⟩
    ·exact hw t ht
  ·cases h
 ·rename_i k a st0 hk
  split at h
  ·rename_i hc
   simp only [lr,ss]at hc
   obtain⟨⟨h1,h2⟩,h3⟩:=hc
   cases h
   refine⟨?_,by simp [bZ,Tr.size];omega,fun t ht=>?_⟩
   ·simp only [wj,Tr.flat]
    rw [xM h2 h3,jv]
   ·rcases fF.1 ht with rfl|ht
    ·exact⟨⟨hk,h1,rfl,rfl⟩,hw a (kE ..)⟩
    ·exact hw t (kC _ ht)
  ·cases h
 ·rename_i k b a st0 hk
  split at h
  ·rename_i hc
   simp only [lr,ss]at hc
   obtain⟨⟨h1,h2⟩,h3⟩:=hc
   cases h
   refine⟨?_,by simp [bZ,Tr.size];omega,fun t ht=>?_⟩
   ·simp only [wj,Tr.flat,bZ]
    rw [xM h2 h3]
    simp only [jv]
   ·rcases fF.1 ht with rfl|ht
    ·exact⟨⟨hk,h1,rfl,rfl⟩,hw a (kC _ (kE ..)),hw b (kE ..)⟩
    ·exact hw t (kC _ (kC _ ht))
  ·cases h
 ·cases h
variable{ns:List bo}
theorem zx: ∀{ns:List bo} {st st' :List Tr},pb ns st=some st' →wfs st→wj st' =wj st++ns∧wfs st'
 |[],st,st',h,hw=>by cases h;simp [hw]
 |n::ns,st,st',h,hw=>by
  unfold pb at h
  cases hp:push st n with
  |none=>rw [hp]at h;cases h
  |some st1=>
   rw [hp]at h
   obtain⟨h1,_,h3⟩:=Pg hp hw
   obtain⟨h4,h5⟩:=zx (ns:=ns) h h3
   exact⟨by rw [h4,h1];simp,h5⟩
theorem rP: ∀(ns ms:List bo) (st:List Tr),pb (ns++ms) st=(pb ns st).bind (pb ms)
 |[],ms,st=>rfl
 |n::ns,ms,st=>by
  simp only [wC,pb]
  cases push st n with
  |none=>rfl
  |some st1=>exact rP ns ms st1
theorem LZ(t:Tr): ∀(st:List Tr),t.wf→pb (t.flat (bZ st)) st=some (t::st):=by
 induction t with
 |lf n=>
  intro st ⟨h1,h2,h3,h4⟩
  have hn' :gT n (-1) (-1)=n:=by cases n;simp only at h3 h4;subst h3 h4;rfl
  simp only [Tr.flat,pb,push,hn']
  rw [h1]
  simp [h2,h3,h4,pb,hn']
 |un n a ih=>
  intro st ⟨⟨h1,h2,h3,h4⟩,ha⟩
  have hn' :gT n (-1) (-1)=n:=by cases n;simp only at h3 h4;subst h3 h4;rfl
  simp only [Tr.flat]
  rw [rP,ih st ha]
  simp only [aY,pb,push]
  have e1:(gT n (((bZ st+a.size:Nat):Int)-1) (-1)).Tag=n.Tag:=rfl
  rw [e1,h1]
  have e2:IG (gT n (((bZ st+a.size:Nat):Int)-1) (-1))=true:=h2
  rw [e2]
  simp only [gT,Du,Bool.and_self,fe,aY,pb]
  simp only [gT]at hn'
  rw [hn']
 |bi n a b iha ihb=>
  intro st ⟨⟨h1,h2,h3,h4⟩,ha,hb⟩
  have hn' :gT n (-1) (-1)=n:=by cases n;simp only at h3 h4;subst h3 h4;rfl
  simp only [Tr.flat]
  rw [rP,rP,iha st ha]
  simp only [aY]
  have e0:bZ st+a.size=bZ (a::st):=rfl
  rw [e0,ihb (a::st) hb]
  simp only [aY,pb,push]
  have e1:(gT n (((bZ (a::st):Nat):Int)-1) (((bZ (a::st)+b.size:Nat):Int)-1)).Tag=n.Tag:=rfl
  rw [e1,h1]
  have e2:IG (gT n (((bZ (a::st):Nat):Int)-1) (((bZ (a::st)+b.size:Nat):Int)-1))=true:=h2
  rw [e2]
  simp only [gT,bZ,Du,Bool.and_self,fe,aY,pb]
  simp only [gT]at hn'
  rw [hn']
def mg(ns:List bo):Option Tr:=match pb ns []with
 |some [t]=>if ns.length≤1000 then some t else none
 |_=>none
theorem jU{t:Tr}(h:mg ns=some t):t.wf∧ns=t.flat 0∧t.size≤1000:=by
 unfold mg at h
 split at h
 ·rename_i t0 hp
  split at h
  ·rename_i hl
   cases h
   obtain⟨h1,h2⟩:=zx hp (fun t ht=>by cases ht)
   simp only [wj,bZ,kz]at h1
   exact⟨h2 t (kE ..),h1.symm,by rw [←t.flat_len 0,h1];exact hl⟩
  ·cases h
 ·cases h
theorem I5{t:Tr}(h:t.wf)(hs:t.size≤1000):mg (t.flat 0)=some t:=by
 unfold mg
 have h0:=LZ t [] h
 simp only [bZ]at h0
 rw [h0]
 simp only [t.flat_len,hs,fe]
def fl:Tr→Nat→List Int
 | .lf _,s=>[(s:Int)]
 | .un _ a,s=>fl a s++[(s:Int)]
 | .bi _ a b,s=>fl a s++fl b (s+a.size)++[(s:Int)]
def Px:List Tr→List Int
 |[]=>[]
 |t::st=>Px st++fl t (bZ st)
def ml:List Tr→List Int
 |[]=>[]
 |t::st=>ml st++[((bZ st+t.size:Nat):Int)-1]
theorem vL(t:Tr): ∀s,(fl t s).length=t.size:=by
 induction t with
 |lf n=>intro s;rfl
 |un n a ih=>intro s;simp [fl,Tr.size,ih]
 |bi n a b iha ihb=>intro s;simp [fl,Tr.size,iha,ihb];omega
theorem tX: ∀st:List Tr,(Px st).length=bZ st
 |[]=>rfl
 |t::st=>by simp [Px,bZ,tX st,vL]
theorem df: ∀st:List Tr,(ml st).length=st.length
 |[]=>rfl
 |t::st=>by simp [ml,df st]
theorem TT(t:Tr)(s:Nat):(fl t s)[t.size-1]? =some (s:Int):=by
 cases t with
 |lf n=>rfl
 |un n a=>simp only [fl,Tr.size];rw [ui (by rw [vL];omega),vL];simp
 |bi n a b=>simp only [fl,Tr.size];rw [ui (by simp [vL]),iO,vL,vL];simp
theorem EE(t:Tr)(st:List Tr)(rest:List Int):(Px st++fl t (bZ st)++rest)[bZ st+t.size-1]? =some (bZ st:Int):=by
 have:=t.size_pos
 rw [Bq (by rw [iO,tX,vL];omega),ui (by rw [tX];omega),tX,show bZ st+t.size-1-bZ st=t.size-1 from by omega]
 exact TT t _
theorem Pz: ∀(ns:List bo) (st:List Tr),bZ st+ns.length≤100000→kq ns (bZ st) (Px st) (ml st)=some (match pb ns st with
   |some st' =>(Px st',decide (st'.length=1)&&decide (bZ st' ≤1000))
   |none=>([],false)):=by
 intro ns
 induction ns with
 |nil=>
  intro st _
  simp only [kq,pb,df,tX]
  congr 2
  congr 1
  ·rw [zX];simp;omega
  ·rw [zX];simp;omega
 |cons n ns ih=>
  intro st hs
  simp only [iG]at hs
  have hll:=Gh st
  unfold kq
  rw [yY]
  simp only [aY,df,EN]
  unfold pb
  unfold push
  -- the parts
  cases hk:pk n.Tag with
  |none=>
   have e:HE n.Tag= -1:=by unfold HE;rw [hk]
   simp [e]
  |some k=>
   have e:HE n.Tag=(k:Int):=by unfold HE;rw [hk]
   have hk3:k=0∨k=1∨k=2:=by
    unfold pk at hk
    repeat' split at hk
    all_goals simp at hk
    all_goals omega
   rw [e]
   rcases hk3 with rfl|rfl|rfl
   ·-- none
    simp only []
    have c1:(decide (((0:Nat):Int)<0)||decide ((st.length:Int)<((0:Nat):Int)))=false:=by simp
    simp only [c1,wd,fe,aY]
    cases hc:IG n with
    |false=>simp
    |true=>
     simp only [ly,gh,ez,uA]
     rw [lD st.length st.length (by rw [cx (by omega) (by omega)];omega) rfl (dF _) (by rw [df];exact dF _)]
     have hd:(List.take st.length (ml st)).drop st.length=[]:=Do (by simp;omega)
     simp only [hd,aY,lN]
     by_cases hL:n.L= -1∧n.R= -1
     ·have hb:(n.L== -1&&n.R== -1)=true:=by simp [hL]
      rw [aW hb,aM (by simp [hL.1,hL.2])]
      rw [cr (by simp only [iG,ph,tX];omega)]
      simp only [aY]
      rw [lD (i:=0) 0 st.length rfl (by rw [df,cx (by omega) (by omega)];omega) (ln _) (by rw [df];exact dF _)]
      rw [rC (by rw [df];exact dF _),wB]
      simp only [aY]
      rw [cr (by simp only [iG,ph,df];omega)]
      simp only [aY]
      have h2:=ih (.lf (gT n (-1) (-1))::st) (by simp [bZ,Tr.size];omega)
      simp only [bZ,Tr.size,Px,fl,ml]at h2
      rw [show(((bZ st+1:Nat):Int)-1)=(bZ st:Int)from by omega]at h2
      exact h2
     ·have hb:(n.L== -1&&n.R== -1)=false:=by
       rw [rl];intro h;apply hL;simpa using h
      rw [hb]
      rw [aW (by
       simp only [CN,Fp]
       intro h
       have h1:(-1:Int)=n.L:=by injection h
       have h2:(-1:Int)=n.R:=by injection h with _ h;injection h
       exact hL ⟨h1.symm,h2.symm⟩)]
      simp
   ·-- one
    cases st with
    |nil=>simp
    |cons a st=>
     simp only []
     have c1:(decide (((1:Nat):Int)<0)||decide (((a::st).length:Int)<((1:Nat):Int)))=false:=by simp;omega
     simp only [c1,wd,fe,aY]
     cases hc:IG n with
     |false=>simp
     |true=>
      simp only [ly,gh,ez,uA]
      simp only [iG]at hll ⊢
      simp only [bZ]at hs hll
      have hap:=a.size_pos
      rw [lD st.length (st.length+1) (by rw [cx (by omega) (by omega)];omega) (by omega) (by omega) (by rw [df];exact dF _)]
      have hd:(List.take (st.length+1) (ml (a::st))).drop st.length=[((bZ st+a.size:Nat):Int)-1]:=by
       rw [rC (by rw [df];exact dF _)]
       simp only [ml]
       rw [F9 (by rw [df];exact dF _),Do (by rw [df];exact dF _),kz]
      rw [hd]
      simp only [aY,lN]
      rw [gM (bZ st+a.size-1) (by omega)]
      have hf:=EE a st []
      rw [su]at hf
      simp only [Px]
      rw [hf]
      simp only [aY]
      rw [gM 0 rfl]
      simp only [Fq,aY]
      have hset:([(-1:Int),-1].set ((0:Nat):Int).toNat (((bZ st+a.size:Nat):Int)-1))=[((bZ st+a.size:Nat):Int)-1,-1]:=rfl
      rw [hset]
      by_cases hL:n.L=((bZ st+a.size:Nat):Int)-1∧n.R= -1
      ·have hb:(n.L==((bZ st+a.size:Nat):Int)-1&&n.R== -1)=true:=by simp [hL]
       rw [aW hb,aM (by rw [hL.1,hL.2];simp)]
       rw [cr (by simp only [iG,ph,iO,tX,vL];omega)]
       simp only [aY]
       rw [lD (i:=0) 0 st.length rfl (by rw [df,cx (by simp<;>omega) (by simp<;>omega)];simp) (ln _) (by rw [df];simp)]
       have ht:(List.take st.length (ml (a::st))).drop 0=ml st:=by
        simp only [ml,wB]
        rw [CP (by rw [df];exact dF _),rC (by rw [df];exact dF _)]
       rw [ht]
       simp only [aY]
       rw [cr (by simp only [iG,ph,df];omega)]
       simp only [aY]
       have h2:=ih (.un (gT n (-1) (-1)) a::st) (by simp [bZ,Tr.size];omega)
       simp only [bZ,Tr.size,Px,fl,ml]at h2
       rw [show(((bZ st+(a.size+1):Nat):Int)-1)=((bZ st+a.size:Nat):Int)from by omega]at h2
       have hm:min ((bZ (a::st):Nat):Int) (bZ st:Int)=(bZ st:Int):=by simp only [bZ];omega
       rw [hm]
       simp only [jv]at h2 ⊢
       exact h2
      ·have hb:(n.L==((bZ st+a.size:Nat):Int)-1&&n.R== -1)=false:=by
        rw [rl];intro h;apply hL;simpa using h
       rw [hb]
       rw [aW (by
        simp only [CN,Fp]
        intro h
        have h1:((bZ st+a.size:Nat):Int)-1=n.L:=by injection h
        have h2:(-1:Int)=n.R:=by injection h with _ h;injection h
        exact hL ⟨h1.symm,h2.symm⟩)]
       simp
   ·-- two
    cases st with
    |nil=>simp
    |cons b st=>
     cases st with
     |nil=>simp
     |cons a st=>
      simp only []
      have c1:(decide (((2:Nat):Int)<0)||decide (((b::a::st).length:Int)<((2:Nat):Int)))=false:=by simp;omega
      simp only [c1,wd,fe,aY]
      cases hc:IG n with
      |false=>simp
      |true=>
       simp only [ly,gh,ez,uA]
       simp only [iG]at hll ⊢
       simp only [bZ]at hs hll
       have hap:=a.size_pos
       have hbp:=b.size_pos
       rw [lD st.length (st.length+1+1) (by rw [cx (by omega) (by omega)];omega) (by omega) (by omega) (by rw [df];exact dF _)]
       have hd:(List.take (st.length+1+1) (ml (b::a::st))).drop st.length=[((bZ st+a.size:Nat):Int)-1,((bZ st+a.size+b.size:Nat):Int)-1]:=by
        rw [rC (by rw [df];exact dF _)]
        simp only [ml,bZ,jv]
        rw [F9 (by rw [df];exact dF _),Do (by rw [df];exact dF _),kz]
        rfl
       rw [hd]
       simp only [aY,lN]
       simp only [Px,bZ]
       rw [gM (bZ st+a.size-1) (by omega)]
       rw [EE a st (fl b (bZ st+a.size))]
       simp only [aY]
       rw [gM 0 rfl]
       simp only [Fq,aY]
       have hset:([(-1:Int),-1].set ((0:Nat):Int).toNat (((bZ st+a.size:Nat):Int)-1))=[((bZ st+a.size:Nat):Int)-1,-1]:=rfl
       rw [hset]
       rw [gM (bZ st+a.size+b.size-1) (by omega)]
       have hf:=EE b (a::st) []
       rw [su]at hf
       simp only [Px,bZ]at hf
       rw [hf]
       simp only [aY]
       rw [gM (0+1) rfl]
       simp only [Nh,Fq,aY]
       have hset2:([((bZ st+a.size:Nat):Int)-1,-1].set ((0+1:Nat):Int).toNat (((bZ st+a.size+b.size:Nat):Int)-1))=[((bZ st+a.size:Nat):Int)-1,((bZ st+a.size+b.size:Nat):Int)-1]:=rfl
       rw [hset2]
       by_cases hL:n.L=((bZ st+a.size:Nat):Int)-1∧n.R=((bZ st+a.size+b.size:Nat):Int)-1
       ·have hb:(n.L==((bZ st+a.size:Nat):Int)-1&&n.R==((bZ st+a.size+b.size:Nat):Int)-1)=true:=by rw [hL.1,hL.2];simp
        rw [aW hb,aM (by rw [hL.1,hL.2];simp)]
        rw [cr (by simp only [iG,ph,iO,tX,vL];omega)]
        simp only [aY]
        rw [lD (i:=0) 0 st.length rfl (by rw [df,cx (by simp;omega) (by simp;omega)];simp;omega) (ln _) (by rw [df];simp;omega)]
        have ht:(List.take st.length (ml (b::a::st))).drop 0=ml st:=by
         simp only [ml,wB,jv]
         rw [CP (by rw [df];exact dF _),rC (by rw [df];exact dF _)]
        rw [ht]
        simp only [aY]
        rw [cr (by simp only [iG,ph,df];omega)]
        simp only [aY]
        have h2:=ih (.bi (gT n (-1) (-1)) a b::st) (by simp [bZ,Tr.size];omega)
        simp only [bZ,Tr.size,Px,fl,ml]at h2
        rw [show(((bZ st+(a.size+b.size+1):Nat):Int)-1)=((bZ st+a.size+b.size:Nat):Int)from by omega,show bZ st+(a.size+b.size+1)=bZ st+a.size+b.size+1 from by omega]at h2
        have hm:min (min (((bZ st+a.size+b.size:Nat)):Int) (bZ st:Int)) ((bZ st+a.size:Nat):Int)=(bZ st:Int):=by omega
        rw [hm]
        simp only [jv]at h2 ⊢
        exact h2
       ·have hb:(n.L==((bZ st+a.size:Nat):Int)-1&&n.R==((bZ st+a.size+b.size:Nat):Int)-1)=false:=by
         rw [rl];intro h;apply hL;simpa using h
        rw [hb]
        rw [aW (by
         simp only [CN,Fp]
         intro h
         have h1:((bZ st+a.size:Nat):Int)-1=n.L:=by injection h
         have h2:((bZ st+a.size+b.size:Nat):Int)-1=n.R:=by injection h with _ h;injection h
         exact hL ⟨h1.symm,h2.symm⟩)]
        simp

theorem kY{n:Nat}(h:n≤1000000):n≤ge:=by unfold ge;omega
def jP(ns:List bo):Bool:=(mg ns).isSome
theorem Jw{st:List Tr}(h:pb ns []=some st):bZ st=ns.length:=by
 have:=(zx h (fun t ht=>by cases ht)).1
 rw [←GD,this];simp [wj]
theorem ux(e:bL)(h:e.Nodes.length≤100000):qt e=some (if jP e.Nodes then 0 else 200):=by
 unfold qt xl jP mg
 have:=Pz e.Nodes [] (by simpa [bZ] using h)
 simp only [bZ,Px,ml]at this
 rw [this]
 cases hp:pb e.Nodes []with
 |none=>rfl
 |some st=>
  have hsz:=Jw hp
  match st,hsz with
  |[],_=>rfl
  |[t],hsz=>
   simp only [aY,hsz]
   by_cases hl:e.Nodes.length≤1000<;>simp [hl]
  |t::t2::st,_=>simp
theorem Tb(t:Tr):t.wf→ ∀(P R N:List bo) (fu:Nat),N=P++t.flat P.length++R→t.size≤fu→N.length≤100000→jg fu ⟨N⟩ (((P.length+t.size:Nat):Int)-1)=some (t.size:Int):=by
 induction t with
 |lf n=>
  intro⟨h1,h2,h3,h4⟩ P R N fu hN hf hl
  have hNl:=congrArg List.length hN
  simp only [iO,Tr.flat_len]at hNl
  simp only [Tr.size]at hf hNl ⊢
  obtain⟨fu,rfl⟩: ∃k,fu=k+1:=⟨fu-1,by omega⟩
  unfold jg
  have hx:N[P.length]? =some (gT n (-1) (-1)):=by
   rw [hN,jv,ui (dF _),za];rfl
  rw [aM (by simp;omega),gM P.length (by omega),hx]
  have e1:(gT n (-1) (-1)).Tag=n.Tag:=rfl
  simp only [aY]
  rw [e1,pD]
  have e:HE n.Tag=0:=by unfold HE;rw [h1];rfl
  simp only [e,aY,jz]
  have e2:IG (gT n (-1) (-1))=true:=h2
  rw [e2]
  simp [gT]
 |un n a ih=>
  intro⟨⟨h1,h2,h3,h4⟩,ha⟩ P R N fu hN hf hl
  obtain⟨m,hm⟩: ∃m,m=gT n (((P.length+a.size:Nat):Int)-1) (-1):=⟨_,rfl⟩
  have hNl:=congrArg List.length hN
  simp only [iO,Tr.flat_len]at hNl
  simp only [Tr.size]at hf hNl ⊢
  simp only [Tr.flat,←hm]at hN
  obtain⟨fu,rfl⟩: ∃k,fu=k+1:=⟨fu-1,by omega⟩
  have hpos:=a.size_pos
  have hi:=ih ha P ([m]++R) N fu (by rw [hN];simp only [jv]) (by omega) hl
  unfold jg
  have hx:N[P.length+a.size]? =some m:=by
   rw [hN,jv,jv,←jv P,ui (by simp [a.flat_len])]
   simp [a.flat_len]
  rw [aM (by simp;omega),gM (P.length+a.size) (by omega),hx]
  simp only [aY]
  have e1:m.Tag=n.Tag:=by rw [hm];rfl
  rw [e1,pD]
  have e:HE n.Tag=1:=by unfold HE;rw [h1];rfl
  simp only [e,aY,jz]
  have e2:IG m=true:=by rw [hm];exact h2
  have eL:m.L=((P.length+a.size:Nat):Int)-1:=by rw [hm];rfl
  have eR:m.R= -1:=by rw [hm];rfl
  rw [cx (n:=((P.length+(a.size+1):Nat):Int)-1-1) (by omega) (by omega),show(((P.length+(a.size+1):Nat):Int)-1-1)=(((P.length+a.size:Nat):Int)-1)from by omega]
  rw [hi]
  simp only [aY]
  rw [cx (n:=(a.size:Int)+1) (by omega) (by omega)]
  have n1: ¬a.size=0:=by omega
  simp [e2,eL,eR,n1]
 |bi n a b iha ihb=>
  intro⟨⟨h1,h2,h3,h4⟩,ha,hb⟩ P R N fu hN hf hl
  obtain⟨m,hm⟩: ∃m,m=gT n (((P.length+a.size:Nat):Int)-1) (((P.length+a.size+b.size:Nat):Int)-1):=⟨_,rfl⟩
  have hNl:=congrArg List.length hN
  simp only [iO,Tr.flat_len]at hNl
  simp only [Tr.size]at hf hNl ⊢
  simp only [Tr.flat,←hm]at hN
  obtain⟨fu,rfl⟩: ∃k,fu=k+1:=⟨fu-1,by omega⟩
  have hap:=a.size_pos
  have hbp:=b.size_pos
  have hi1:=iha ha P (b.flat (P.length+a.size)++[m]++R) N fu (by rw [hN];simp only [jv]) (by omega) hl
  have hi2:=ihb hb (P++a.flat P.length) ([m]++R) N fu (by rw [hN];simp only [jv,iO,a.flat_len]) (by omega) hl
  rw [iO,a.flat_len]at hi2
  unfold jg
  have hx:N[P.length+a.size+b.size]? =some m:=by
   rw [hN,jv,jv,←jv P,ui (by simp [a.flat_len,b.flat_len];omega)]
   have:P.length+a.size+b.size-(P++(a.flat P.length++b.flat (P.length+a.size))).length=0:=by simp [a.flat_len,b.flat_len];omega
   rw [this];rfl
  rw [aM (by simp;omega),gM (P.length+a.size+b.size) (by omega),hx]
  simp only [aY]
  have e1:m.Tag=n.Tag:=by rw [hm];rfl
  rw [e1,pD]
  have e:HE n.Tag=2:=by unfold HE;rw [h1];rfl
  simp only [e,aY,jz]
  have e2:IG m=true:=by rw [hm];exact h2
  have eL:m.L=((P.length+a.size:Nat):Int)-1:=by rw [hm];rfl
  have eR:m.R=((P.length+a.size+b.size:Nat):Int)-1:=by rw [hm];rfl
  rw [cx (n:=((P.length+(a.size+b.size+1):Nat):Int)-1-1) (by omega) (by omega),show(((P.length+(a.size+b.size+1):Nat):Int)-1-1)=(((P.length+a.size+b.size:Nat):Int)-1)from by omega]
  rw [hi2]
  simp only [aY]
  rw [cx (n:=((P.length+a.size+b.size:Nat):Int)-1-(b.size:Int)) (by omega) (by omega),show((P.length+a.size+b.size:Nat):Int)-1-(b.size:Int)=((P.length+a.size:Nat):Int)-1 from by omega]
  rw [hi1]
  simp only [aY]
  rw [cx (n:=(a.size:Int)+(b.size:Int)) (by omega) (by omega),cx (n:=(a.size:Int)+(b.size:Int)+1) (by omega) (by omega)]
  have n1: ¬a.size=0:=by omega
  have n2: ¬b.size=0:=by omega
  have e5:(P.length:Int)+(a.size:Int)+(b.size:Int)-1-(b.size:Int)=(P.length:Int)+(a.size:Int)-1:=by omega
  simp [e2,eL,eR,n1,n2,e5]
theorem Tc(N:List bo)(hN:N.length≤100000): ∀(fu q:Nat),q≤N.length→q<fu→ ∃k:Nat,jg fu ⟨N⟩ ((q:Int)-1)=some (k:Int)∧(k=0∨ ∃(t:Tr) (P R:List bo),t.wf∧t.size=k∧N=P++t.flat P.length++R∧P.length+k=q):=by
 intro fu
 induction fu with
 |zero=>intro q _ h;omega
 |succ fu ih=>
  intro q hq hf
  unfold jg
  by_cases h0:q=0
  ·subst h0
   exact⟨0,by rw [aW (by simp)];rfl,.inl rfl⟩
  rw [aM (by simp;omega),gM (q-1) (by omega)]
  have hlt:q-1<N.length:=by omega
  rw [n8 hlt]
  obtain⟨n,hn⟩: ∃n,n=N[q-1]:=⟨_,rfl⟩
  rw [←hn]
  have hd:N=N.take (q-1)++([n]++N.drop q):=by
   have h1:=vp (q-1) N
   rw [rD hlt,←hn,show q-1+1=q from by omega]at h1
   exact h1.symm
  simp only [aY,pD,jz]
  cases hk:pk n.Tag with
  |none=>
   have e:HE n.Tag= -1:=by unfold HE;rw [hk]
   exact⟨0,by simp [e],.inl rfl⟩
  |some k=>
   have e:HE n.Tag=(k:Int):=by unfold HE;rw [hk]
   have hk3:k=0∨k=1∨k=2:=by
    unfold pk at hk
    repeat' split at hk
    all_goals simp at hk
    all_goals omega
   cases hc:IG n with
   |false=>exact⟨0,by simp [e,hc],.inl rfl⟩
   |true=>
    rcases hk3 with rfl|rfl|rfl
    ·rw [e]
     by_cases hL:n.L= -1∧n.R= -1
     ·refine⟨1,by simp [hL],.inr ⟨.lf (gT n (-1) (-1)),N.take (q-1),N.drop q,⟨hk,hc,rfl,rfl⟩,rfl,?_,by simp;omega⟩⟩
      simp only [Tr.flat]
      rw [xM hL.1 hL.2,jv]
      exact hd
     ·refine⟨0,?_,.inl rfl⟩
      have:(n.L != -1||n.R != -1)=true:=by
       rw [pi,qN,qN]
       by_cases hl:n.L= -1
       ·exact .inr fun h=>hL ⟨hl,h⟩
       ·exact .inl hl
      simp [this]
    ·rw [e,cx (by omega) (by omega)]
     have e9:(((q-1:Nat):Int)-1)=(q:Int)-1-1:=by omega
     obtain⟨r2,h2,h2'⟩:=ih (q-1) (by omega) (by omega)
     rw [e9]at h2
     rw [h2]
     rcases h2' with rfl|⟨t,P,R,hw,hs,hN2,hl⟩
     ·exact⟨0,by simp,.inl rfl⟩
     ·have hp:=t.size_pos
      by_cases hL:n.L=(q:Int)-1-1∧n.R= -1
      ·refine⟨r2+1,?_,.inr ⟨.un (gT n (-1) (-1)) t,P,N.drop q,⟨⟨hk,hc,rfl,rfl⟩,hw⟩,by simp only [Tr.size];omega,?_,by omega⟩⟩
       ·simp only [aY]
        rw [cx (n:=(r2:Int)+1) (by omega) (by omega)]
        have: ¬(r2=0):=by omega
        simp [hL,this]
       ·simp only [Tr.flat]
        rw [xM (by rw [hL.1];omega) hL.2]
        have ht:N.take (q-1)=P++t.flat P.length:=by
         rw [hN2,CP (by simp [t.flat_len];omega),rC (by simp [t.flat_len];omega)]
        rw [ht]at hd
        simpa only [jv] using hd
      ·refine⟨0,?_,.inl rfl⟩
       have:(n.L !=(q:Int)-1-1||n.R != -1)=true:=by
        rw [pi,qN,qN]
        by_cases hl:n.L=(q:Int)-1-1
        ·exact .inr fun h=>hL ⟨hl,h⟩
        ·exact .inl hl
       simp [this]
    ·rw [e,cx (n:=(q:Int)-1-1) (by omega) (by omega)]
     have e9:(((q-1:Nat):Int)-1)=(q:Int)-1-1:=by omega
     obtain⟨r2,h2,h2'⟩:=ih (q-1) (by omega) (by omega)
     rw [e9]at h2
     rw [h2]
     rcases h2' with rfl|⟨t,P,R,hw,hs,hN2,hl⟩
     ·exact⟨0,by simp,.inl rfl⟩
     ·have hp:=t.size_pos
      simp only [aY]
      rw [cx (n:=(q:Int)-1-1-(r2:Int)) (by omega) (by omega)]
      have e8:(((q-1-r2:Nat):Int)-1)=(q:Int)-1-1-(r2:Int):=by omega
      have n2: ¬(r2=0):=by omega
      obtain⟨r3,h3,h3'⟩:=ih (q-1-r2) (by omega) (by omega)
      rw [e8]at h3
      rw [h3]
      rcases h3' with rfl|⟨t3,P3,R3,hw3,hs3,hN3,hl3⟩
      ·exact⟨0,by simp,.inl rfl⟩
      ·have hp3:=t3.size_pos
       have n3: ¬(r3=0):=by omega
       by_cases hL:n.R=(q:Int)-1-1∧n.L=(q:Int)-1-1-(r2:Int)
       ·refine⟨r3+r2+1,?_,.inr ⟨.bi (gT n (-1) (-1)) t3 t,P3,N.drop q,⟨⟨hk,hc,rfl,rfl⟩,hw3,hw⟩,by simp only [Tr.size];omega,?_,by omega⟩⟩
        ·simp only [aY]
         rw [cx (n:=(r3:Int)+(r2:Int)) (by omega) (by omega),cx (n:=(r3:Int)+(r2:Int)+1) (by omega) (by omega)]
         simp [hL,n2,n3]
        ·simp only [Tr.flat]
         rw [xM (by rw [hL.2];omega) (by rw [hL.1];omega)]
         have ht:N.take (q-1)=P++t.flat P.length:=by
          rw [hN2,CP (by simp [t.flat_len];omega),rC (by simp [t.flat_len];omega)]
         have hP:P=N.take P.length:=by
          conv=>rhs;rw [hN2,jv,CP (dF _),rC (dF _)]
         have hP3:P=P3++t3.flat P3.length:=by
          rw [hP]
          have:P.length=P3.length+t3.size:=by omega
          conv=>lhs;rw [this,hN3]
          rw [CP (by simp [t3.flat_len]),rC (by simp [t3.flat_len])]
         have hPl:P.length=P3.length+t3.size:=by omega
         rw [ht,hPl]at hd
         rw [hP3]at hd
         simpa only [jv] using hd
       ·clear ih hN2 hN3
        refine⟨0,?_,.inl rfl⟩
        have:(n.R !=(q:Int)-1-1||n.L !=(q:Int)-1-1-(r2:Int))=true:=by
         rw [pi,qN,qN]
         by_cases hl:n.R=(q:Int)-1-1
         ·exact .inr fun h=>hL ⟨hl,h⟩
         ·exact .inl hl
        have h' :=this
        rw [pi,qN,qN]at h'
        simp [n2,n3]
        intro h1 h2
        exact absurd h2 (by rcases h' with h' |h';exact absurd h1 h';exact h')
theorem w7(e:bL):tK e=some (jP e.Nodes):=by
 unfold tK jP
 by_cases h:1≤e.Nodes.length∧e.Nodes.length≤1000
 ·rw [aW (by simp;omega),cx (by omega) (by omega)]
  unfold D9
  obtain⟨k,h1,h2⟩:=Tc e.Nodes (by omega) ge e.Nodes.length (dF _) (wE (wL _) (kY (by omega)))
  have h1' :jg ge e ((e.Nodes.length:Int)-1)=some (k:Int):=h1
  rw [h1']
  simp only [aY]
  congr 1
  rw [zX]
  constructor
  ·intro hk
   have hk' :k=e.Nodes.length:=by have:=eq_of_beq hk;omega
   rcases h2 with rfl|⟨t,P,R,hw,hs,hN,hl⟩
   ·omega
   ·have hP:P=[]:=tz (by omega)
    subst hP
    have hR:R=[]:=by
     have:=congrArg List.length hN
     simp [t.flat_len]at this
     exact tz (by omega)
    subst hR
    have hN' :e.Nodes=t.flat 0:=by simpa using hN
    rw [hN',I5 hw (by omega)];rfl
  ·intro hi
   cases ht:mg e.Nodes with
   |none=>rw [ht]at hi;cases hi
   |some t=>
    obtain⟨hw,hN,hs⟩:=jU ht
    have hlen:e.Nodes.length=t.size:=by rw [hN,t.flat_len]
    have h3:=Tb t hw [] [] e.Nodes ge (by simpa using hN) (kY (by omega)) (by omega)
    simp only [ph,uz]at h3
    rw [←hlen]at h3
    have h4:some (k:Int)=some (e.Nodes.length:Int):=h1.symm.trans h3
    simpa using h4
 ·rw [aM (by simp;omega)]
  simp only [aY]
  congr 1
  symm
  rw [rl]
  intro hi
  cases ht:mg e.Nodes with
  |none=>rw [ht]at hi;cases hi
  |some t=>
   obtain⟨hw,hN,hs⟩:=jU ht
   have hlen:e.Nodes.length=t.size:=by rw [hN,t.flat_len]
   have:=t.size_pos
   omega
theorem LP(h:jP ns=true):1≤ns.length∧ns.length≤1000:=by
 unfold jP at h
 cases ht:mg ns with
 |none=>rw [ht]at h;cases h
 |some t=>
  obtain⟨hw,hN,hs⟩:=jU ht
  have hlen:ns.length=t.size:=by rw [hN,t.flat_len]
  have:=t.size_pos
  omega

theorem Kx(p:List Int)(hp:p.length≤8000)(i:Nat)(y:List Int)(hy:i+y.length=p.length): ∀(k i1:Nat) (x:List Int) (x1:Nat),i1+k=y.length→0<i1→x.length=p.length→x1+1≤i+i1→x.drop (i+i1-1)=p.drop (i+i1-1)→
  d8 i y k i1 x (x1:Int)=some (x.take x1++s8 ((p[i+i1-1]?).getD 0) (p.drop (i+i1))):=by
 intro k
 induction k with
 |zero=>
  intro i1 x x1 h1 h0 hx h2 h3
  simp only [d8]
  have hx1:x1≤x.length:=by omega
  rw [lC hx1 (dF _)]
  simp only [aY,wK,yn]
  rw [show((0:Int))=((0:Nat):Int)from rfl,lC (ln _) (by simp;omega)]
  simp only [aY,wB]
  have hn:p.drop (i+i1)=[]:=wG (by omega)
  rw [hn,A7,su,CP (by simp;omega),Bm,Nat.min_self]
 |succ k ih=>
  intro i1 x x1 h1 h0 hx h2 h3
  have e1:x[i+i1]? =p[i+i1]? :=by
   have:=congrArg (fun l:List Int=>l[1]?) h3
   simp only [wF]at this
   rwa [show i+i1-1+1=i+i1 from by omega]at this
  have e0:x[i+i1-1]? =p[i+i1-1]? :=by
   have:=congrArg (fun l:List Int=>l[0]?) h3
   simpa only [wF,ym] using this
  have hlt:i+i1<p.length:=by omega
  have g1:xg x (i:Int) y.length (i1:Int)=some p[i+i1]:=by
   unfold xg
   rw [aW (by omega),show(i:Int)+(i1:Int)=((i+i1:Nat):Int)from by omega,bX,e1,n8 hlt]
  have g0:xg x (i:Int) y.length (IntKind.i64.wrap ((i1:Int)-1))=some p[i+i1-1]:=by
   rw [cx (by omega) (by omega)]
   unfold xg
   rw [aW (by omega),show(i:Int)+((i1:Int)-1)=((i+i1-1:Nat):Int)from by omega,bX,e0,n8 (by omega)]
  have hd:p.drop (i+i1)=p[i+i1]::p.drop (i+i1+1):=rD hlt
  have hp1:(p[i+i1-1]?).getD 0=p[i+i1-1]:=by rw [n8 (by omega)];rfl
  simp only [d8,g1,g0,aY]
  rw [hd,hp1]
  by_cases hx2:p[i+i1]=p[i+i1-1]
  ·rw [aM (by simp [hx2])]
   have h3' :x.drop (i+(i1+1)-1)=p.drop (i+(i1+1)-1):=by
    have:=congrArg (List.drop 1) h3
    rwa [pp,pp,show i+i1-1+1=i+(i1+1)-1 from by omega]at this
   rw [ih (i1+1) x x1 (by omega) (by omega) hx (by omega) h3']
   rw [ya hx2,show i+(i1+1)-1=i+i1 from by omega,n8 hlt,show i+(i1+1)=i+i1+1 from by omega]
   rfl
  ·rw [aW (by simp [hx2]),bX,n8 (by omega)]
   simp only [aY,yn]
   rw [cx (by omega) (by omega),show((x1:Int)+1)=((x1+1:Nat):Int)from by omega]
   have h3' :(x.set x1 p[i+i1]).drop (i+(i1+1)-1)=p.drop (i+(i1+1)-1):=by
    rw [List.drop_set_of_lt (by omega)]
    have:=congrArg (List.drop 1) h3
    rwa [pp,pp,show i+i1-1+1=i+(i1+1)-1 from by omega]at this
   rw [ih (i1+1) _ (x1+1) (by omega) (by omega) (by simpa using hx) (by omega) h3']
   rw [Dk hx2,show i+(i1+1)-1=i+i1 from by omega,n8 hlt,show i+(i1+1)=i+i1+1 from by omega]
   have ht:(x.set x1 p[i+i1]).take (x1+1)=x.take x1++[p[i+i1]]:=by
    rw [Lh (by simp;omega),List.take_set_of_le (by omega)]
    simp
   rw [ht]
   simp
theorem Ky(p:List Int)(hp:p.length≤8000):jO p=some (uc p):=by
 unfold jO
 by_cases h2:p.length<2
 ·rw [aW (by simp;omega)]
  match p,h2 with
  |[],_=>rfl
  |[x],_=>rfl
 ·rw [aM (by simp;omega)]
  have key: ∀(l:List Int) (i:Nat),p.drop i=l→0<i→i≤p.length→uc p=p.take i++s8 ((p[i-1]?).getD 0) (p.drop i)→eT p l i=some (uc p):=by
   intro l
   induction l with
   |nil=>
    intro i h1 h0 hle h3
    have:=Fo.1 h1
    simp only [eT]
    rw [h3,h1,rC (by omega),A7,su]
   |cons x t ih=>
    intro i h1 h0 hle h3
    have hi:i<p.length:=by
     rcases lx i p.length with h|h
     ·exact h
     ·rw [wG h]at h1;cases h1
    have hx:x=p[i]:=by rw [rD hi]at h1;exact(Cc h1).1.symm
    have ht:p.drop (i+1)=t:=by rw [←pp,h1];rfl
    have hp1:(p[i-1]?).getD 0=p[i-1]:=by rw [n8 (by omega)];rfl
    simp only [eT]
    rw [cx (by omega) (by omega),show(i:Int)-1=((i-1:Nat):Int)from by omega,bX,n8 (by omega)]
    simp only [aY]
    by_cases he:x=p[i-1]
    ·rw [aW (by simp [he])]
     rw [lC hle (dF _)]
     simp only [aY,wK]
     rw [Kx p hp i (p.drop i) (by simp;omega) _ 1 p i (by simp;omega) (by omega) rfl (by omega) (by simp)]
     rw [h3,h1,hp1,ya he,←ht,hx]
     rw [show i+1-1=i from by omega,n8 hi];rfl
    ·rw [aM (by simp [he])]
     refine ih (i+1) ht (by omega) (by omega) ?_
     rw [h3,h1,hp1,Dk he,Lh hi,←ht,hx,show i+1-1=i from by omega,n8 hi]
     rw [jv];rfl
  have hpc:p=p[0]::p.drop 1:=by
   have:=rD (l:=p) (i:=0) (by omega)
   simpa using this
  refine key (p.drop 1) 1 rfl (by omega) (by omega) ?_
  have e:(p[1-1]?).getD 0=p[0]:=by simp [n8 (show 0<p.length by omega)]
  rw [e]
  conv=>lhs;rw [hpc]
  have e2:p.take 1=[p[0]]:=by
   conv=>lhs;rw [hpc]
   rfl
  rw [e2];rfl

theorem Po(l:List Int)(z:Int):z∈sortI l↔z∈l:=by unfold sortI;simp
theorem zU: ∀(ns:List bo) (out:List Int),out.length+ns.length≤8000→ ∃cs,mz ns out=some cs∧ ∀c,c∈cs↔c∈out∨ ∃n∈ns,n.Tag=2∧n.Col=c
 |[],out,h=>by
  unfold mz DN
  rw [aW (by simp at h;omega)]
  simp only [aY]
  rw [Ky _ (by rw [Bw];simpa using h)]
  exact⟨_,rfl,fun c=>by rw [xQ,Po];simp⟩
 |n::ns,out,h=>by
  simp only [iG]at h
  unfold mz
  by_cases ht:n.Tag=2
  ·rw [aW (by simp [ht]),cr (by simp;omega)]
   simp only [aY]
   obtain⟨cs,h1,h2⟩:=zU ns (out++[n.Col]) (by simp;omega)
   exact⟨cs,h1,fun c=>by rw [h2];simp [ht,or_assoc,eq_comm]⟩
  ·rw [aM (by simp [ht])]
   obtain⟨cs,h1,h2⟩:=zU ns out (by omega)
   exact⟨cs,h1,fun c=>by rw [h2];simp [ht]⟩
theorem AX(e:bL)(h:jP e.Nodes=true): ∃cs,sq e=some cs∧ ∀c,c∈cs↔ ∃n∈e.Nodes,n.Tag=2∧n.Col=c:=by
 have hl:=LP h
 unfold sq
 rw [ux e (by omega),h]
 obtain⟨cs,h1,h2⟩:=zU e.Nodes [] (by simp;omega)
 exact⟨cs,by simpa using h1,fun c=>by rw [h2];simp⟩
def kn(tag l r:Int):Int×Bool:=(iU tag l r).getD (0,false)
theorem yS(tag l r:Int):iU tag l r=some (kn tag l r):=by
 unfold kn iU im
 simp only [aY]
 repeat' split
 all_goals simp
def k4(k:Int):Prop:=k=0∨k=1∨k=2∨k=3
theorem V2(tag l r:Int):k4 (kn tag l r).1:=by
 unfold kn iU im
 simp only [aY]
 repeat' split
 all_goals simp [k4]
variable{kinds:List Int}
theorem MZ(kinds:List Int)(n:bo)(x:Int)(hx:k4 x)(hk:pk n.Tag=some 1):jp kinds n [x]=some (if(kn n.Tag x 0).2 then((kn n.Tag x 0).1,0)else(0,201)):=by
 obtain⟨tag,L,R,col,v⟩:=n
 have ht:tag=4∨tag=5∨tag=6∨tag=7:=by
  unfold pk at hk
  repeat' split at hk
  all_goals simp at hk
  rename_i h
  have h:4≤tag∧tag≤7:=h
  omega
 rcases ht with rfl|rfl|rfl|rfl<;>rcases hx with rfl|rfl|rfl|rfl<;>rfl
theorem MY(kinds:List Int)(n:bo)(x y:Int)(hx:k4 x)(hy:k4 y)(hk:pk n.Tag=some 2):jp kinds n [x,y]=some (if(kn n.Tag x y).2 then((kn n.Tag x y).1,0)else(0,201)):=by
 obtain⟨tag,L,R,col,v⟩:=n
 have ht:tag=12∨tag=13∨tag=14∨tag=15∨tag=16∨tag=17∨tag=18∨tag=19∨tag=20∨tag=21∨tag=22∨tag=23:=by
  unfold pk at hk
  repeat' split at hk
  all_goals simp at hk
  rename_i h
  have h:12≤tag∧tag≤23:=h
  omega
 rcases ht with rfl|rfl|rfl|rfl|rfl|rfl|rfl|rfl|rfl|rfl|rfl|rfl<;>rcases hx with rfl|rfl|rfl|rfl<;>rcases hy with rfl|rfl|rfl|rfl<;>rfl
def kd(kinds:List Int):Tr→Option Int
 | .lf n=>if n.Tag=1 then some n.Value.Kind else some ((kinds[n.Col.toNat]?).getD 0)
 | .un n a=>(kd kinds a).bind fun x=>if(kn n.Tag x 0).2 then some (kn n.Tag x 0).1 else none
 | .bi n a b=>(kd kinds a).bind fun x=>(kd kinds b).bind fun y=>if(kn n.Tag x y).2 then some (kn n.Tag x y).1 else none
theorem NO(kinds:List Int)(n:bo)(a:Tr):kd kinds (.un n a)=(kd kinds a).bind fun x=>if(kn n.Tag x 0).2 then some (kn n.Tag x 0).1 else none:=rfl
theorem JZ(kinds:List Int)(n:bo)(a b:Tr):kd kinds (.bi n a b)=(kd kinds a).bind fun x=>(kd kinds b).bind fun y=>if(kn n.Tag x y).2 then some (kn n.Tag x y).1 else none:=rfl
def CF(m:Nat):Tr→Prop
 | .lf n=>n.Tag=2→n.Col<m
 | .un _ a=>CF m a
 | .bi _ a b=>CF m a∧CF m b
theorem Yw(h:pk tag=some 0):tag=1∨tag=2:=by
 unfold pk at h
 repeat' split at h
 all_goals simp at h
 assumption
theorem pk2(h:pk tag=some k)(ht:tag=2):k=0:=by subst ht;simp [pk]at h;exact h.symm
theorem Zw(h:IG n=true)(ht:n.Tag=1):mt n.Value=true:=by
 have h2:=jz n
 rw [h]at h2
 unfold mo at h2
 rw [aW (by simp [ht]),jl]at h2
 simp at h2
 exact h2.1
theorem ML(h:IG n=true)(ht:n.Tag=2):0≤n.Col∧n.Col<16:=by
 have h2:=jz n
 rw [h]at h2
 unfold mo at h2
 rw [aM (by simp [ht]),aW (by simp [ht])]at h2
 simp at h2
 exact⟨h2.1.2,h2.2⟩
theorem NP(hk: ∀k∈kinds,k4 k): ∀(t:Tr),t.wf→ ∀{k},kd kinds t=some k→k4 k
 | .lf n,⟨h1,h2,_,_⟩,k,h=>by
  unfold kd at h
  split at h
  ·rename_i ht
   have:=Ju (Zw h2 ht)
   cases h;unfold k4;omega
  ·injection h with h
   subst h
   cases hc:kinds[n.Col.toNat]? with
   |none=>exact .inl rfl
   |some z=>exact hk z (rA hc)
 | .un n a,_,k,h=>by
  unfold kd at h
  cases ha:kd kinds a with
  |none=>rw [ha]at h;cases h
  |some x=>
   rw [ha,aY]at h
   split at h
   ·cases h;exact V2 ..
   ·cases h
 | .bi n a b,_,k,h=>by
  unfold kd at h
  cases ha:kd kinds a with
  |none=>rw [ha]at h;cases h
  |some x=>
   cases hb:kd kinds b with
   |none=>rw [ha,hb]at h;cases h
   |some y=>
    rw [ha,hb]at h
    simp only [aY]at h
    split at h
    ·cases h;exact V2 ..
    ·cases h
theorem Ma(stack l:List Int)(h:stack.length+l.length≤100000):oF (stack++l) (l.length:Int)=some (l,stack):=by
 unfold oF cy
 have e:IntKind.i64.wrap (((stack++l).length:Int)-(l.length:Int))=(stack.length:Int):=by
  rw [iO,cx (by omega) (by omega)];omega
 rw [e,lD stack.length (stack++l).length rfl rfl (by simp) (dF _)]
 simp only [aY,wK,F9 (dF _),List.drop_length,kz]
 rw [cr (by simp;omega)]
 simp only [aY,kz]
 rw [lD (i:=0) 0 stack.length rfl rfl (ln _) (by simp)]
 simp
theorem Jz(stack:List Int){b:Int}(h:b≠0):lM b stack=some (0,b):=by
 unfold lM;rw [aW (by simpa using h)]
theorem m7(h:pk tag=some k):oY tag=some (k:Int):=by
 rw [yY];unfold HE;rw [h]
theorem Ph(kinds:List Int)(hk: ∀k∈kinds,k4 k)(t:Tr):t.wf→CF kinds.length t→ ∀(s:Nat) (rest:List bo) (stack:List Int),stack.length+t.size≤50000→
  gW (jp kinds) (t.flat s++rest) 0 stack=match kd kinds t with
   |some k=>gW (jp kinds) rest 0 (stack++[k])
   |none=>some (0,201):=by
 induction t with
 |lf n=>
  intro⟨h1,h2,h3,h4⟩ hc s rest stack hl
  simp only [Tr.flat,Tr.size,wC,kz]at hl ⊢
  rw [gW]
  have e1:(gT n (-1) (-1)).Tag=n.Tag:=rfl
  rw [e1,m7 h1]
  have h0:=Ma stack [] (by simp;omega)
  simp only [su,ph]at h0
  simp only [aY]
  rw [h0]
  simp only [aY]
  have hv:jp kinds (gT n (-1) (-1)) []=(kd kinds (.lf n)).map (fun k=>(k,(0:Int))):=by
   unfold jp lO kd
   simp only [e1]
   rcases Yw h1 with ht|ht
   ·rw [aW (by simp [ht]),aW ht];rfl
   ·rw [aM (by simp [ht]),aW (by simp [ht]),aM (by simp [ht])]
    have hb:=ML h2 ht
    have hm:n.Col<kinds.length:=hc ht
    have e2:(gT n (-1) (-1)).Col=n.Col:=rfl
    rw [e2,gM n.Col.toNat (by omega),n8 (by omega)]
    rfl
  rw [hv]
  have: ∃k,kd kinds (.lf n)=some k:=by unfold kd;split<;>exact⟨_,rfl⟩
  obtain⟨k,hk1⟩:=this
  rw [hk1]
  simp only [Option.map_some,aY]
  rw [aM (by simp),cr (by simp;omega)]
  rfl
 |un n a ih=>
  intro⟨⟨h1,h2,h3,h4⟩,ha⟩ hc s rest stack hl
  simp only [Tr.flat,Tr.size,jv]at hl ⊢
  rw [NO,ih ha hc s _ stack (by omega)]
  cases hx:kd kinds a with
  |none=>rfl
  |some x=>
   have hx4:=NP hk a ha hx
   simp only [aY,wC,kz]
   rw [gW]
   have e1:(gT n (((s+a.size:Nat):Int)-1) (-1)).Tag=n.Tag:=rfl
   rw [e1,m7 h1]
   have h0:=Ma stack [x] (by simp;omega)
   simp only [aY]
   have e0:(([x]:List Int).length:Int)=((1:Nat):Int):=rfl
   rw [←e0,h0]
   simp only [aY]
   rw [MZ kinds _ x hx4 (by rw [e1];exact h1),e1]
   cases hb:(kn n.Tag x 0).2 with
   |true=>
    simp only [fe,aY]
    rw [aM (by simp),cr (by simp;omega)]
    rfl
   |false=>
    simp only [gh,ez,aY]
    rw [aW (by decide),Jz _ (by decide)]
 |bi n a b iha ihb=>
  intro⟨⟨h1,h2,h3,h4⟩,ha,hb⟩ ⟨hca,hcb⟩ s rest stack hl
  simp only [Tr.flat,Tr.size,jv]at hl ⊢
  rw [JZ,iha ha hca s _ stack (by omega)]
  cases hx:kd kinds a with
  |none=>rfl
  |some x=>
   have hx4:=NP hk a ha hx
   simp only [aY]
   rw [ihb hb hcb (s+a.size) _ (stack++[x]) (by have:=a.size_pos;simp;omega)]
   cases hy:kd kinds b with
   |none=>rfl
   |some y=>
    have hy4:=NP hk b hb hy
    have hap:=a.size_pos
    simp only [aY,wC,kz]
    rw [gW]
    have e1:(gT n (((s+a.size:Nat):Int)-1) (((s+a.size+b.size:Nat):Int)-1)).Tag=n.Tag:=rfl
    rw [e1,m7 h1]
    have h0:=Ma stack [x,y] (by simp;omega)
    simp only [aY]
    have e0:(([x,y]:List Int).length:Int)=((2:Nat):Int):=rfl
    have e9:stack++[x]++[y]=stack++[x,y]:=by simp
    rw [←e0,e9,h0]
    simp only [aY]
    rw [MY kinds _ x y hx4 hy4 (by rw [e1];exact h1),e1]
    cases hb:(kn n.Tag x y).2 with
    |true=>
     simp only [fe,aY]
     rw [aM (by simp),cr (by simp;omega)]
     rfl
    |false=>
     simp only [gh,ez,aY]
     rw [aW (by decide),Jz _ (by decide)]
theorem QJ(kinds:List Int)(hk: ∀k∈kinds,k4 k)(t:Tr):t.wf→CF kinds.length t→ ∀(rest:List bo) (own:List Int),own.length+t.size≤50000→
  (kd kinds t=none∧dl kinds (t.flat own.length++rest) own=some (0,201))∨
  (∃k w,kd kinds t=some k∧w.length+1=t.size∧dl kinds (t.flat own.length++rest) own=dl kinds rest (own++w++[k])):=by
 induction t with
 |lf n=>
  intro⟨h1,h2,h3,h4⟩ hc rest own hl
  simp only [Tr.flat,Tr.size,wC,kz]at hl ⊢
  refine .inr ?_
  have e1:(gT n (-1) (-1)).Tag=n.Tag:=rfl
  unfold kd
  rcases Yw h1 with ht|ht
  ·refine⟨_,[],aW ht,rfl,?_⟩
   rw [dl]
   rw [e1,aW (by simp [ht]),cr (by simp;omega)]
   simp only [aY,su]
   rfl
  ·refine⟨_,[],aM (by simp [ht]),rfl,?_⟩
   have hb:=ML h2 ht
   have hm:n.Col<kinds.length:=hc ht
   have e2:(gT n (-1) (-1)).Col=n.Col:=rfl
   rw [dl]
   rw [e1,aM (by simp [ht]),aW (by simp [ht]),e2,gM n.Col.toNat (by omega),n8 (by omega)]
   simp only [aY,su,F3]
   rw [cr (by simp;omega)]
   rfl
 |un n a ih=>
  intro⟨⟨h1,h2,h3,h4⟩,ha⟩ hc rest own hl
  have hap:=a.size_pos
  simp only [Tr.flat,Tr.size,jv]at hl ⊢
  rcases ih ha hc ([gT n (((own.length+a.size:Nat):Int)-1) (-1)]++rest) own (by omega)with⟨hx,he⟩|⟨x,w,hx,hw,he⟩
  ·exact .inl ⟨by rw [NO,hx];rfl,by rw [he]⟩
  ·rw [he]
   rw [NO,hx]
   simp only [aY,wC,kz]
   have e1:(gT n (((own.length+a.size:Nat):Int)-1) (-1)).Tag=n.Tag:=rfl
   have n1:n.Tag≠1:=fun h=>by rw [h]at h1;simp [pk]at h1
   have n2:n.Tag≠2:=fun h=>by rw [h]at h1;simp [pk]at h1
   have hstep:dl kinds (gT n (((own.length+a.size:Nat):Int)-1) (-1)::rest) (own++w++[x])=if(kn n.Tag x 0).2 then dl kinds rest (own++w++[x]++[(kn n.Tag x 0).1])else some (0,201):=by
    rw [dl]
    rw [e1,aM (by simpa using n1),aM (by simpa using n2)]
    have eL:(gT n (((own.length+a.size:Nat):Int)-1) (-1)).L=((own.length+a.size:Nat):Int)-1:=rfl
    have eR:(gT n (((own.length+a.size:Nat):Int)-1) (-1)).R= -1:=rfl
    rw [eL,eR,gM (own++w).length (by simp;omega),ui (dF _),za]
    simp only [Fq,aY]
    rw [aM (by decide)]
    unfold qF
    rw [e1,yS]
    simp only [aY]
    cases hb:(kn n.Tag x 0).2 with
    |true=>
     simp only [ly,gh,ez,fe]
     rw [cr (by simp;omega)];rfl
    |false=>rfl
   rw [hstep]
   cases hb:(kn n.Tag x 0).2 with
   |true=>exact .inr ⟨(kn n.Tag x 0).1,w++[x],by simp,by simp;omega,by simp⟩
   |false=>exact .inl ⟨by simp,by simp⟩
 |bi n a b iha ihb=>
  intro⟨⟨h1,h2,h3,h4⟩,ha,hb⟩ ⟨hca,hcb⟩ rest own hl
  have hap:=a.size_pos
  have hbp:=b.size_pos
  simp only [Tr.flat,Tr.size,jv]at hl ⊢
  obtain⟨m,hm⟩: ∃m,m=gT n (((own.length+a.size:Nat):Int)-1) (((own.length+a.size+b.size:Nat):Int)-1):=⟨_,rfl⟩
  rw [←hm]
  rcases iha ha hca (b.flat (own.length+a.size)++([m]++rest)) own (by omega)with⟨hx,he⟩|⟨x,w,hx,hw,he⟩
  ·exact .inl ⟨by rw [JZ,hx];rfl,by rw [he]⟩
  ·rw [he]
   have hl2:(own++w++[x]).length=own.length+a.size:=by simp;omega
   rw [←hl2]
   rcases ihb hb hcb ([m]++rest) (own++w++[x]) (by rw [hl2];omega)with⟨hy,he2⟩|⟨y,w2,hy,hw2,he2⟩
   ·exact .inl ⟨by rw [JZ,hx,hy];rfl,by rw [he2]⟩
   ·rw [he2]
    rw [JZ,hx,hy]
    simp only [aY,wC,kz]
    have e1:m.Tag=n.Tag:=by rw [hm];rfl
    have eL:m.L=((own.length+a.size:Nat):Int)-1:=by rw [hm];rfl
    have eR:m.R=((own.length+a.size+b.size:Nat):Int)-1:=by rw [hm];rfl
    have n1:n.Tag≠1:=fun h=>by rw [h]at h1;simp [pk]at h1
    have n2:n.Tag≠2:=fun h=>by rw [h]at h1;simp [pk]at h1
    have hstep:dl kinds (m::rest) (own++w++[x]++w2++[y])=if(kn n.Tag x y).2 then dl kinds rest (own++w++[x]++w2++[y]++[(kn n.Tag x y).1])else some (0,201):=by
     rw [dl]
     rw [e1,aM (by simpa using n1),aM (by simpa using n2)]
     rw [eL,eR,gM (own++w).length (by simp;omega)]
     have g1:(own++w++[x]++w2++[y])[(own++w).length]? =some x:=by
      rw [jv,jv,ui (dF _),za];rfl
     rw [g1]
     simp only [aY]
     rw [aW (by rw [kZ];omega),gM (own++w++[x]++w2).length (by simp;omega)]
     have g2:(own++w++[x]++w2++[y])[(own++w++[x]++w2).length]? =some y:=by
      rw [ui (dF _),za];rfl
     rw [g2]
     simp only [aY]
     unfold qF
     rw [e1,yS]
     simp only [aY]
     cases hb:(kn n.Tag x y).2 with
     |true=>
      simp only [ly,gh,ez,fe]
      rw [cr (by simp;omega)];rfl
     |false=>rfl
    rw [hstep]
    cases hb:(kn n.Tag x y).2 with
    |true=>exact .inr ⟨(kn n.Tag x y).1,w++[x]++w2++[y],by simp,by simp;omega,by simp⟩
    |false=>exact .inl ⟨by simp,by simp⟩
def qw(m:Nat)(ns:List bo):Bool:=ns.all fun n=> !((n.Tag==2)&&decide ((m:Int)≤n.Col))
theorem Kz(m:Nat)(n:bo)(ns:List bo):qw m (n::ns)=(!((n.Tag==2)&&decide ((m:Int)≤n.Col))&&qw m ns):=rfl
theorem xr(m:Nat)(t:Tr):t.wf→ ∀s,qw m (t.flat s)=true→CF m t:=by
 induction t with
 |lf n=>
  intro _ s h ht
  simp only [qw,Tr.flat,wq,List.all_nil,yH]at h
  have e1:(gT n (-1) (-1)).Tag=n.Tag:=rfl
  have e2:(gT n (-1) (-1)).Col=n.Col:=rfl
  simp [e1,e2,ht]at h
  exact h
 |un n a ih=>
  intro⟨_,ha⟩ s h
  simp only [qw,Tr.flat,List.all_append,lr]at h
  exact ih ha s h.1
 |bi n a b iha ihb=>
  intro⟨_,ha,hb⟩ s h
  simp only [qw,Tr.flat,List.all_append,lr]at h
  exact⟨iha ha s h.1.1,ihb hb _ h.1.2⟩
def yB(kinds:List Int):Bool:=kinds.all fun k=>decide (0≤k)&&decide (k≤3)
theorem AJ(k:Int)(ks:List Int):yB (k::ks)=((decide (0≤k)&&decide (k≤3))&&yB ks):=rfl
theorem xS(h:yB kinds=true){k:Int}(hk:k∈kinds):k4 k:=by
 have:=ju.1 h k hk
 simp at this
 unfold k4;omega
def fO(e:bL)(kinds:List Int):Int×Int:=
 if jP e.Nodes then if yB kinds then if qw kinds.length e.Nodes then match (mg e.Nodes).bind (kd kinds)with
  |some k=>(k,0)
  |none=>(0,201)else(0,2)else(0,2)else(0,200)
theorem E8(e:bL)(kinds:List Int): ∀cs:List Int,my e kinds cs=if cs.all (fun c=>decide (c<(kinds.length:Int)))then ox e (jp kinds)else some (0,2)
 |[]=>by
  unfold my
  cases ox e (jp kinds)<;>rfl
 |c::cs=>by
  unfold my
  rw [E8 e kinds cs]
  by_cases h:(kinds.length:Int)≤c
  ·rw [aW (by simpa using h),aM (by simp;omega)]
  ·rw [aM (by simpa using h)]
   have:c<(kinds.length:Int):=by omega
   simp [this]
theorem vQ(e:bL)(kinds:List Int)(hl:e.Nodes.length≤50000):sl e kinds=some (fO e kinds):=by
 unfold sl fO
 rw [ux e (by omega)]
 cases hr:jP e.Nodes with
 |false=>rfl
 |true=>
  simp only [fe,aY]
  rw [aM (by decide)]
  have key: ∀ks:List Int,pN e kinds ks=if yB ks then(sq e).bind (my e kinds)else some (0,2):=by
   intro ks
   induction ks with
   |nil=>rfl
   |cons k ks ih=>
    unfold pN
    rw [ih]
    by_cases h:k<0∨3<k
    ·rw [aW (by simpa using h),aM (by simp [yB];omega)]
    ·rw [aM (by simpa using h)]
     have h1:(decide (0≤k)&&decide (k≤3))=true:=by simp;omega
     rw [AJ,h1,uA]
  rw [key]
  cases hk:yB kinds with
  |false=>rfl
  |true=>
   simp only [fe]
   obtain⟨cs,h1,h2⟩:=AX e hr
   rw [h1,aY,E8]
   have hci:cs.all (fun c=>decide (c<(kinds.length:Int)))=qw kinds.length e.Nodes:=by
    rw [zX]
    simp only [ju,kZ,qw,CN,Bool.and_eq_false_iff,beq_eq_false_iff_ne,Fp]
    constructor
    ·intro h n hn
     by_cases ht:n.Tag=2
     ·exact .inr (by have:=h _ ((h2 n.Col).2 ⟨n,hn,ht,rfl⟩);omega)
     ·exact .inl ht
    ·intro h c hc
     obtain⟨n,hn,ht,rfl⟩:=(h2 c).1 hc
     rcases h n hn with h|h
     ·exact absurd ht h
     ·omega
   rw [hci]
   cases hc:qw kinds.length e.Nodes with
   |false=>rfl
   |true=>
    simp only [fe]
    cases ht:mg e.Nodes with
    |none=>unfold jP at hr;rw [ht]at hr;cases hr
    |some t=>
     obtain⟨hw,hN,hs⟩:=jU ht
     have hct:=xr kinds.length t hw 0 (by rw [←hN];exact hc)
     have:=Ph kinds (fun k=>xS hk) t hw hct 0 [] [] (by simp;omega)
     rw [su,←hN]at this
     unfold ox
     rw [this]
     simp only [aY]
     cases kd kinds t with
     |none=>rfl
     |some k=>rfl
theorem lb(e:bL)(kinds:List Int):sJ e kinds=some (fO e kinds):=by
 unfold sJ fO
 rw [w7 e]
 cases hr:jP e.Nodes with
 |false=>rfl
 |true=>
  simp only [fe,aY,ly,gh,ez]
  have key2: ∀ns:List bo,ol e kinds ns=if qw kinds.length ns then dl kinds e.Nodes []else some (0,2):=by
   intro ns
   induction ns with
   |nil=>rfl
   |cons n ns ih=>
    unfold ol
    rw [ih,Kz]
    cases ((n.Tag==2)&&decide ((kinds.length:Int)≤n.Col))<;>simp
  have key: ∀ks:List Int,qE e kinds ks=if yB ks then ol e kinds e.Nodes else some (0,2):=by
   intro ks
   induction ks with
   |nil=>rfl
   |cons k ks ih=>
    unfold qE
    rw [ih]
    by_cases h:k<0∨3<k
    ·rw [aW (by simpa using h),aM (by simp [yB];omega)]
    ·rw [aM (by simpa using h)]
     have h1:(decide (0≤k)&&decide (k≤3))=true:=by simp;omega
     rw [AJ,h1,uA]
  rw [key,key2]
  cases hk:yB kinds with
  |false=>rfl
  |true=>
   cases hc:qw kinds.length e.Nodes with
   |false=>rfl
   |true=>
    simp only [fe]
    cases ht:mg e.Nodes with
    |none=>unfold jP at hr;rw [ht]at hr;cases hr
    |some t=>
     obtain⟨hw,hN,hs⟩:=jU ht
     have hct:=xr kinds.length t hw 0 (by rw [←hN];exact hc)
     have:=QJ kinds (fun k=>xS hk) t hw hct [] [] (by simp;omega)
     rw [su,ph,←hN]at this
     simp only [aY]
     rcases this with⟨h1,h2⟩|⟨k,w,h1,h2,h3⟩
     ·rw [h1,h2]
     ·rw [h1,h3]
      unfold dl
      have hls:t.size≤1000:=hs
      rw [kz,gM w.length (by rw [cx (by simp<;>omega) (by simp<;>omega)];simp),ui (dF _),za]
      rfl
def Yq(n:bo):Bool:=n.Tag==4||decide (12≤n.Tag)&&decide (n.Tag≤15)

def zV:ac:=⟨0,0,0,[]⟩
def bV(b:Bool):ac:=⟨1,if b then 1 else 0,0,[]⟩
def iV(n:Int):ac:=⟨2,n,0,[]⟩
def sV(s:wz):ac:=⟨3,0,0,s⟩
def r64(n:Int):Prop:= -9223372036854775808≤n∧n≤9223372036854775807
inductive Pl:ac→Prop
 |z:Pl zV
 |b (b:Bool):Pl (bV b)
 |i (n:Int) (h:r64 n):Pl (iV n)
 |s (s:wz) (h:s.length≤40):Pl (sV s)
theorem Pl.plain(h:Pl v):mt v=true:=by
 cases h with
 |z=>rfl
 |b b=>cases b<;>rfl
 |i n h=>simp [mt,fh,dh,iV]
 |s s h=>
  have h' :(s.length:Int)≤40:=by omega
  simp [mt,fh,dh,sV,h']
theorem Pl.right(h:Pl v):fh v=true:=by
 have:=h.plain
 unfold mt at this
 rw [lr]at this
 exact this.1
theorem Eg(h:mt v=true)(hr:r64 v.N):Pl v:=by
 obtain⟨k,n,u,s⟩:=v
 unfold mt fh dh at h
 simp only [lr,qN,o0]at h
 obtain⟨h1,h2⟩:=h
 by_cases k0:k=0
 ·subst k0
  simp at h1
  rw [show(⟨0,n,u,s⟩:ac)=zV from by simp only [zV];simp [h1]]
  exact .z
 by_cases k1:k=1
 ·subst k1
  simp at h1
  obtain⟨⟨rfl,rfl⟩,h1⟩:=h1
  rcases h1 with rfl|rfl
  ·exact .b false
  ·exact .b true
 by_cases k2:k=2
 ·subst k2
  simp at h1
  obtain⟨rfl,rfl⟩:=h1
  exact .i n hr
 by_cases k3:k=3
 ·subst k3
  simp at h1
  obtain⟨⟨rfl,rfl⟩,h1⟩:=h1
  exact .s s (by omega)
 simp [k0,k1,k2,k3,h2]at h1
theorem Pl.r64(h:Pl v):r64 v.N:=by
 cases h with
 |z=>exact⟨by decide,by decide⟩
 |b b=>cases b<;>exact⟨by decide,by decide⟩
 |i n h=>exact h
 |s s h=>exact⟨by simp [sV],by simp [sV]⟩
theorem Pl.check(h:Pl v):kQ v=some 0:=by rw [np,h.right];rfl
theorem Pl.plain_eq(h:Pl v):lX v=some true:=by rw [sy,h.plain]
theorem QH{b:ac}(ha:Pl a)(hb:Pl b):o4 [a,b]=some 0:=by
 unfold o4 ji ji ji
 simp [ha.check,hb.check]
theorem KG{b:ac}(ha:Pl a)(hb:Pl b)(to:Int→Int→Option (Int×Bool)):rd a b to=
  if(a.Kind=0∨a.Kind=2)∧(b.Kind=0∨b.Kind=2)then(if a.Kind=0∨b.Kind=0 then some (zV,0)else(to a.N b.N).bind fun r=>if r.2 then some (iV r.1,0)else some (zV,140))else some (zV,2):=by
 unfold rd pc jS jS jS
 simp only [ha.check,hb.check,aY]
 cases ha<;>cases hb<;>simp [zV,bV,iV,sV,oI,nQ]
 congr 1
 funext r
 cases r.2<;>rfl
inductive Tu:ac→Prop
 |z:Tu zV
 |b (b:Bool):Tu (bV b)
theorem Tu.pl(h:Tu v):Pl v:=by cases h;exact .z;exact .b _
theorem iP(h:Pl v):Tu v↔v.Kind≤1:=by
 constructor
 ·intro h;cases h<;>simp [zV,bV]
 ·intro hk
  cases h with
  |z=>exact .z
  |b b=>exact .b b
  |i n h=>simp [iV]at hk
  |s s h=>simp [sV]at hk
def tn(v:ac):Int:=if v.Kind=0 then 1 else 2*v.N
def tv(n:Int):ac:=if n=0 then bV false else if n=1 then zV else bV true
theorem Qu(h:Tu v):tn v=0∨tn v=1∨tn v=2:=by
 cases h with
 |z=>exact .inr (.inl rfl)
 |b b=>cases b;exact .inl rfl;exact .inr (.inr rfl)
theorem DC(h:Tu v):wQ v=some (tn v):=by
 cases h with
 |z=>rfl
 |b b=>cases b<;>rfl
theorem Qr{n:Int}(h:n=0∨n=1∨n=2):Tu (tv n):=by
 rcases h with rfl|rfl|rfl
 ·exact .b false
 ·exact .z
 ·exact .b true
theorem Mj(h:Pl v)(hn: ¬Tu v):decide (1<v.Kind)=true:=by
 rw [iP h]at hn;simp;omega
theorem Y6(h:Tu v):decide (1<v.Kind)=false:=by
 have:=(iP h.pl).1 h;simp;omega
def EY(a b:ac):ac:=tv (min (tn a) (tn b))
def SS(a b:ac):ac:=tv (max (tn a) (tn b))
def FT(a:ac):ac:=tv (2-tn a)
theorem Hj{b:ac}(ha:Tu a)(hb:Tu b):sd a b=some (EY a b,0):=by
 cases ha with
 |z=>cases hb with
  |z=>rfl
  |b b=>cases b<;>rfl
 |b x=>cases hb with
  |z=>cases x<;>rfl
  |b b=>cases x<;>cases b<;>rfl
theorem I2{b:ac}(ha:Tu a)(hb:Tu b):uJ a b=some (SS a b,0):=by
 cases ha with
 |z=>cases hb with
  |z=>rfl
  |b b=>cases b<;>rfl
 |b x=>cases hb with
  |z=>cases x<;>rfl
  |b b=>cases x<;>cases b<;>rfl
theorem Aj(ha:Tu a):qa a=some (FT a,0):=by
 cases ha with
 |z=>rfl
 |b x=>cases x<;>rfl
theorem Ev{b:ac}(ha:Pl a)(hb:Pl b)(h: ¬(Tu a∧Tu b))(to:List Int→Option Int):nl to [a,b]=some (zV,2):=by
 unfold nl
 rw [QH ha hb]
 simp only [aY]
 rw [aM (by decide)]
 unfold lA
 by_cases h1:Tu a
 ·have h2: ¬Tu b:=fun k=>h ⟨h1,k⟩
  rw [Y6 h1]
  simp only [gh,ez,DC h1,aY]
  rw [cr (by simp)]
  simp only [aY]
  unfold lA
  rw [Mj hb h2,aW rfl];rfl
 ·rw [Mj ha h1,aW rfl];rfl
theorem Fv(ha:Pl a)(h: ¬Tu a):qa a=some (zV,2):=by
 unfold qa nl o4 ji ji
 rw [ha.check]
 simp only [aY]
 rw [aM (by decide)]
 unfold lA
 simp only [aY]
 rw [aM (by decide),Mj ha h,aW rfl];rfl
def ET(a b:ac):Int:=(k5 a b).getD 0
theorem Bs{b:ac}(ha:Pl a)(hb:Pl b):k5 a b=some (ET a b):=by
 unfold ET
 have: ∃c,k5 a b=some c:=by
  unfold k5
  rw [ha.plain_eq,hb.plain_eq]
  simp only [aY,ly,wd,fe,ez]
  unfold gH m9 gC kK oC iX
  simp only [yI,aY,gh,ez]
  have h1: ∀x y:Int,∃c,(if decide (x<y)=true then some (-1:Int)else if decide (y<x)=true then some 1 else some 0)=some c:=by
   intro x y;repeat' split
   all_goals exact⟨_,rfl⟩
  obtain⟨c1,e1⟩:=h1 a.Kind b.Kind
  obtain⟨c2,e2⟩:=h1 a.N b.N
  rw [e1,e2]
  simp only [aY]
  unfold mC ga ga ga ga
  repeat' split
  all_goals exact⟨_,rfl⟩
 obtain⟨c,h⟩:=this
 rw [h];rfl
theorem TQ{b:ac}(ha:Pl a)(hb:Pl b){is:Int→Option Bool}{f:Int→Bool}(hf: ∀c,is c=some (f c)):p9 a b is=
  some (if a.Kind=0∨b.Kind=0 then(zV,0)else if a.Kind=b.Kind then(bV (f (ET a b)),0)else(zV,2)):=by
 unfold p9
 rw [QH ha hb]
 simp only [aY,Bs ha hb,hf,oI]
 have hbv: ∀x,oJ x=some (bV x):=fun x=>by cases x<;>rfl
 simp only [hbv,aY]
 cases ha<;>cases hb<;>simp [zV,bV,iV,sV]

def A2:List (Int×(ac→ac→Option (ac×Int))):=(xX).getD []
theorem Il:xX=some A2:=rfl
def Vq(tag:Int):ac→ac→Option (ac×Int):=(oR A2 tag).getD (fun _ _=>none)
theorem dz4:Vq 4=mw yd:=rfl
theorem dz5:Vq 5=mw qa:=rfl
theorem dz6:Vq 6=nH true:=rfl
theorem dz7:Vq 7=nH false:=rfl
theorem abO:Vq 20=lh nm:=rfl
theorem abN:Vq 22=sd:=rfl
theorem abM:Vq 23=uJ:=rfl
def MQ(tag x y:Int):Int×Bool:=(if tag=12 then re x y else if tag=13 then pe x y else if tag=14 then mb x y else md x y).getD (0,false)
theorem ot(n:Int):r64 (IntKind.i64.wrap n):=by rw [uB];unfold r64;omega
theorem Gb{n:Int}(h:0≤n)(h2:n<18446744073709551616):IntKind.u64.wrap n=n:=by rw [tw];omega
theorem tH(n:Int)(h:r64 n):oZ n=some (n.natAbs:Int):=by
 unfold r64 at h
 unfold oZ
 by_cases hn:n<0
 ·rw [aW (by simpa using hn),tw,tw]
  congr 1;omega
 ·rw [aM (by simpa using hn),tw]
  congr 1;omega
theorem Wx(tag x y:Int)(hx:r64 x)(hy:r64 y):(if tag=12 then re x y else if tag=13 then pe x y else if tag=14 then mb x y else md x y)=some (MQ tag x y)∧r64 (MQ tag x y).1:=by
 unfold MQ
 split
 ·exact⟨rfl,ot _⟩
 ·split
  ·exact⟨rfl,ot _⟩
  ·split
   ·unfold mb mL mF
    simp only [tH x hx,tH y hy,aY]
    split
    ·exact⟨rfl,ot _⟩
    ·exact⟨rfl,ot _⟩
   ·unfold md
    by_cases h0:y=0
    ·subst h0;exact⟨rfl,show r64 0 from⟨by decide,by decide⟩⟩
    ·rw [aM (by simpa using h0)]
     simp only [tH x hx,tH y hy,aY]
     have hn:nz ((y.natAbs:Nat):Int)=some ():=by
      unfold nz
      rw [aM (by omega)]
     rw [hn]
     unfold mF
     simp only [aY]
     split
     ·exact⟨rfl,ot _⟩
     ·exact⟨rfl,ot _⟩
def wx(tag:Int)(a b:ac):ac×Int:=
 if(a.Kind=0∨a.Kind=2)∧(b.Kind=0∨b.Kind=2)then(if a.Kind=0∨b.Kind=0 then(zV,0)else if(MQ tag a.N b.N).2 then(iV (MQ tag a.N b.N).1,0)else(zV,140))else(zV,2)
def eK(f:Int→Bool)(a b:ac):ac×Int:=if a.Kind=0∨b.Kind=0 then(zV,0)else if a.Kind=b.Kind then(bV (f (ET a b)),0)else(zV,2)
def Eo(q:ac×Int):ac×Int:=if q.2=0 then(FT q.1,0)else q
def BD(tag:Int)(a b:ac):ac×Int:=
 if tag=4 then wx 13 (iV 0) a else
 if tag=5 then(if a.Kind≤1 then(FT a,0)else(zV,2))else
 if tag=6 then(bV (a.Kind==0),0)else
 if tag=7 then(bV (a.Kind !=0),0)else
 if tag≤15 then wx tag a b else
 if tag=16 then eK (fun c=>c==0) a b else
 if tag=17 then Eo (eK (fun c=>c==0) a b)else
 if tag=18 then eK (fun c=>decide (c<0)) a b else
 if tag=19 then Eo (eK (fun c=>decide (c<0)) b a)else
 if tag=20 then eK (fun c=>decide (c<0)) b a else
 if tag=21 then Eo (eK (fun c=>decide (c<0)) a b)else
 if tag=22 then(if a.Kind≤1∧b.Kind≤1 then(EY a b,0)else(zV,2))else
 (if a.Kind≤1∧b.Kind≤1 then(SS a b,0)else(zV,2))
theorem q8(f:Int→Bool)(a b:ac):(eK f a b).2=0→Tu (eK f a b).1:=by
 unfold eK
 split
 ·intro _;exact .z
 ·split
  ·intro _;exact .b _
  ·intro h;cases h
theorem BL(f:Int→Bool)(a b:ac):(eK f a b).2≠0→eK f a b=(zV,2):=by
 unfold eK
 split
 ·intro h;exact absurd rfl h
 ·split
  ·intro h;exact absurd rfl h
  ·intro _;rfl
theorem El{do1:ac→ac→Option (ac×Int)}{b:ac}{f:Int→Bool}{x y:ac}(h:do1 a b=some (eK f x y)):s6 do1 a b=some (Eo (eK f x y)):=by
 unfold s6 Eo
 rw [h]
 simp only [aY]
 by_cases h0:(eK f x y).2=0
 ·rw [aM (by simp [h0]),aW h0,Aj (q8 f x y h0)];rfl
 ·rw [aW (by simpa using h0),aM h0]
theorem EV{b:ac}(ha:Pl a)(hb:Pl b){to:Int→Int→Option (Int×Bool)}(h: ∀x y,to x y=if tag=12 then re x y else if tag=13 then pe x y else if tag=14 then mb x y else md x y):
  (rd a b to).bind (fun r=>some (r.1,r.2))=some (wx tag a b):=by
 rw [KG ha hb]
 unfold wx
 split
 ·split
  ·rfl
  ·rw [h,(Wx tag a.N b.N ha.r64 hb.r64).1]
   simp only [aY]
   split<;>rfl
 ·rfl
theorem GA{b:ac}(ha:Pl a)(hb:Pl b){is:Int→Option Bool}{f:Int→Bool}(hf: ∀c,is c=some (f c)):(p9 a b is).bind (fun r=>some (r.1,r.2))=some (eK f a b):=by
 rw [TQ ha hb hf];rfl
theorem wS{b:ac}(ha:Pl a)(hb:Pl b):qO a b=some (eK (fun c=>c==0) a b):=GA ha hb fun _=>rfl
theorem qC{b:ac}(ha:Pl a)(hb:Pl b):nm a b=some (eK (fun c=>decide (c<0)) a b):=GA ha hb fun _=>rfl
theorem QN(h:pk tag=some k)(hk:k≠0):tag=4∨tag=5∨tag=6∨tag=7∨tag=12∨tag=13∨tag=14∨tag=15∨tag=16∨tag=17∨tag=18∨tag=19∨tag=20∨tag=21∨tag=22∨tag=23:=by
 unfold pk at h
 repeat' split at h
 all_goals simp at h
 ·exact absurd h.symm hk
 all_goals omega
theorem Yf(h:pk tag=some k)(hk:k≠0){b:ac}(ha:Pl a)(hb:Pl b):Vq tag a b=some (BD tag a b):=by
 have hbv: ∀x,oJ x=some (bV x):=fun x=>by cases x<;>rfl
 rcases QN h hk with rfl|rfl|rfl|rfl|rfl|rfl|rfl|rfl|rfl|rfl|rfl|rfl|rfl|rfl|rfl|rfl
 ·rw [dz4];unfold mw yd nQ
  simp only [aY]
  have:=EV (tag:=13) (Pl.i 0 ⟨by decide,by decide⟩) ha (to:=pe) (fun _ _=>rfl)
  have h2:vf (iV 0) a=some (wx 13 (iV 0) a):=this
  rw [show(⟨2,0,0,[]⟩:ac)=iV 0 from rfl,h2];rfl
 ·rw [dz5];unfold mw BD
  rw [aM (by decide),aW rfl]
  by_cases ht:Tu a
  ·rw [Aj ht,aW ((iP ha).1 ht)];rfl
  ·rw [Fv ha ht,aM (fun h=>ht ((iP ha).2 h))];rfl
 ·rw [dz6];unfold nH
  rw [hbv]
  simp only [aY]
  unfold BD
  rw [aM (by decide),aM (by decide),aW rfl]
  cases hx:(a.Kind==0)<;>rfl
 ·rw [dz7];unfold nH
  rw [hbv]
  simp only [aY]
  unfold BD
  rw [aM (by decide),aM (by decide),aM (by decide),aW rfl]
  simp only [bne]
  cases hx:(a.Kind==0)<;>rfl
 ·exact EV (tag:=12) ha hb fun _ _=>rfl
 ·exact EV (tag:=13) ha hb fun _ _=>rfl
 ·exact EV (tag:=14) ha hb fun _ _=>rfl
 ·exact EV (tag:=15) ha hb fun _ _=>rfl
 ·exact wS ha hb
 ·exact El (wS ha hb)
 ·exact qC ha hb
 ·exact El (do1:=lh nm) (by unfold lh;rw [qC hb ha];rfl)
 ·rw [abO];unfold lh;rw [qC hb ha];rfl
 ·exact El (qC ha hb)
 ·rw [abN]
  show _=some (if a.Kind≤1∧b.Kind≤1 then(EY a b,0)else(zV,2))
  by_cases ht:Tu a∧Tu b
  ·rw [Hj ht.1 ht.2,aW ⟨(iP ha).1 ht.1,(iP hb).1 ht.2⟩]
  ·rw [aM (fun h=>ht ⟨(iP ha).2 h.1,(iP hb).2 h.2⟩)]
   unfold sd
   rw [Ev ha hb ht];rfl
 ·rw [abM]
  show _=some (if a.Kind≤1∧b.Kind≤1 then(SS a b,0)else(zV,2))
  by_cases ht:Tu a∧Tu b
  ·rw [I2 ht.1 ht.2,aW ⟨(iP ha).1 ht.1,(iP hb).1 ht.2⟩]
  ·rw [aM (fun h=>ht ⟨(iP ha).2 h.1,(iP hb).2 h.2⟩)]
   unfold uJ
   rw [Ev ha hb ht];rfl
theorem Yp{b:ac}(ha:Pl a)(hb:Pl b):(wx tag a b).2=0→Pl (wx tag a b).1:=by
 unfold wx
 split
 ·split
  ·intro _;exact .z
  ·split
   ·intro _;exact .i _ (Wx tag a.N b.N ha.r64 hb.r64).2
   ·intro h;cases h
 ·intro h;cases h
theorem VE(tag:Int)(a b:ac):(wx tag a b).2≠0→wx tag a b=(zV,140)∨wx tag a b=(zV,2):=by
 unfold wx
 split
 ·split
  ·intro h;exact absurd rfl h
  ·split
   ·intro h;exact absurd rfl h
   ·intro _;exact .inl rfl
 ·intro _;exact .inr rfl
theorem Da(h:Tu a):Tu (FT a):=by
 unfold FT
 apply Qr
 have:=Qu h;omega
theorem OG{b:ac}(h:Tu a)(k:Tu b):Tu (EY a b):=by
 apply Qr
 have:=Qu h;have:=Qu k;omega
theorem QR{b:ac}(h:Tu a)(k:Tu b):Tu (SS a b):=by
 apply Qr
 have:=Qu h;have:=Qu k;omega
theorem Xm(f:Int→Bool)(a b:ac):(Eo (eK f a b)).2=0→Tu (Eo (eK f a b)).1:=by
 unfold Eo
 split
 ·rename_i h;intro _;exact Da (q8 f a b h)
 ·rename_i h;intro k;exact absurd k h
theorem Tx(f:Int→Bool)(a b:ac):(Eo (eK f a b)).2≠0→Eo (eK f a b)=(zV,2):=by
 unfold Eo
 split
 ·intro h;exact absurd rfl h
 ·rename_i h;intro _;exact BL f a b h
theorem BC(h:pk tag=some k)(hk:k≠0){b:ac}(ha:Pl a)(hb:Pl b):
  ((BD tag a b).2=0∧Pl (BD tag a b).1)∨BD tag a b=(zV,2)∨(BD tag a b=(zV,140)∧(tag=4∨(12≤tag∧tag≤15))):=by
 have har: ∀t x y,Pl x→Pl y→((wx t x y).2=0∧Pl (wx t x y).1)∨wx t x y=(zV,2)∨wx t x y=(zV,140):=by
  intro t x y hx hy
  by_cases h0:(wx t x y).2=0
  ·exact .inl ⟨h0,Yp hx hy h0⟩
  ·rcases VE t x y h0 with h|h
   ·exact .inr (.inr h)
   ·exact .inr (.inl h)
 have hh: ∀f x y,((eK f x y).2=0∧Pl (eK f x y).1)∨eK f x y=(zV,2):=by
  intro f x y
  by_cases h0:(eK f x y).2=0
  ·exact .inl ⟨h0,(q8 f x y h0).pl⟩
  ·exact .inr (BL f x y h0)
 have hn: ∀f x y,((Eo (eK f x y)).2=0∧Pl (Eo (eK f x y)).1)∨Eo (eK f x y)=(zV,2):=by
  intro f x y
  by_cases h0:(Eo (eK f x y)).2=0
  ·exact .inl ⟨h0,(Xm f x y h0).pl⟩
  ·exact .inr (Tx f x y h0)
 rcases QN h hk with rfl|rfl|rfl|rfl|rfl|rfl|rfl|rfl|rfl|rfl|rfl|rfl|rfl|rfl|rfl|rfl
 ·rcases har 13 (iV 0) a (.i 0 ⟨by decide,by decide⟩) ha with h|h|h
  ·exact .inl h
  ·exact .inr (.inl h)
  ·exact .inr (.inr ⟨h,.inl rfl⟩)
 ·show _∨_∨_
  unfold BD
  rw [aM (by decide),aW rfl]
  split
  ·rename_i hk;exact .inl ⟨rfl,(Da ((iP ha).2 hk)).pl⟩
  ·exact .inr (.inl rfl)
 ·exact .inl ⟨rfl,.b _⟩
 ·exact .inl ⟨rfl,.b _⟩
 ·rcases har 12 a b ha hb with h|h|h
  ·exact .inl h
  ·exact .inr (.inl h)
  ·exact .inr (.inr ⟨h,by decide⟩)
 ·rcases har 13 a b ha hb with h|h|h
  ·exact .inl h
  ·exact .inr (.inl h)
  ·exact .inr (.inr ⟨h,by decide⟩)
 ·rcases har 14 a b ha hb with h|h|h
  ·exact .inl h
  ·exact .inr (.inl h)
  ·exact .inr (.inr ⟨h,by decide⟩)
 ·rcases har 15 a b ha hb with h|h|h
  ·exact .inl h
  ·exact .inr (.inl h)
  ·exact .inr (.inr ⟨h,by decide⟩)
 ·exact(hh (fun c=>c==0) a b).imp_right .inl
 ·exact(hn (fun c=>c==0) a b).imp_right .inl
 ·exact(hh (fun c=>decide (c<0)) a b).imp_right .inl
 ·exact(hn (fun c=>decide (c<0)) b a).imp_right .inl
 ·exact(hh (fun c=>decide (c<0)) b a).imp_right .inl
 ·exact(hn (fun c=>decide (c<0)) a b).imp_right .inl
 ·show _∨_∨_
  rw [show BD 22 a b=if a.Kind≤1∧b.Kind≤1 then(EY a b,0)else(zV,2)from rfl]
  split
  ·rename_i h;exact .inl ⟨rfl,(OG ((iP ha).2 h.1) ((iP hb).2 h.2)).pl⟩
  ·exact .inr (.inl rfl)
 ·show _∨_∨_
  rw [show BD 23 a b=if a.Kind≤1∧b.Kind≤1 then(SS a b,0)else(zV,2)from rfl]
  split
  ·rename_i h;exact .inl ⟨rfl,(QR ((iP ha).2 h.1) ((iP hb).2 h.2)).pl⟩
  ·exact .inr (.inl rfl)

def dz(tag:Int)(a b:ac):ac×Int:=if(BD tag a b).2=0 then BD tag a b else(zV,if(BD tag a b).2=140 then 140 else 201)
def CK(q:ac×Int)(f:ac→ac×Int):ac×Int:=if q.2=0 then f q.1 else q
def ev(r:List ac):Tr→ac×Int
 | .lf n=>if n.Tag=1 then(n.Value,0)else((r[n.Col.toNat]?).getD zV,0)
 | .un n a=>CK (ev r a) fun x=>dz n.Tag x x
 | .bi n a b=>CK (ev r a) fun x=>CK (ev r b) fun y=>dz n.Tag x y
def SR:Tr→Prop
 | .lf n=>r64 n.Value.N
 | .un _ a=>SR a
 | .bi _ a b=>SR a∧SR b
def xq(r:List ac):Tr→Prop
 | .lf n=>n.Tag=2→n.Col.toNat<r.length∧ ∃v,r[n.Col.toNat]? =some v∧Pl v
 | .un _ a=>xq r a
 | .bi _ a b=>xq r a∧xq r b
theorem va(h:pk tag=some k)(hk:k≠0){b:ac}(ha:Pl a)(hb:Pl b):
  ((dz tag a b).2=0∧Pl (dz tag a b).1∧dz tag a b=BD tag a b)∨(dz tag a b=(zV,201)∧BD tag a b=(zV,2))∨(dz tag a b=(zV,140)∧BD tag a b=(zV,140)∧(tag=4∨(12≤tag∧tag≤15))):=by
 unfold dz
 rcases BC h hk ha hb with⟨h1,h2⟩|h1|⟨h1,h2⟩
 ·rw [aW h1];exact .inl ⟨h1,h2,rfl⟩
 ·rw [h1];exact .inr (.inl ⟨rfl,rfl⟩)
 ·rw [h1];exact .inr (.inr ⟨rfl,rfl,h2⟩)
theorem Oo(r:List ac)(n:bo)(a:Tr):ev r (.un n a)=CK (ev r a) fun x=>dz n.Tag x x:=rfl
theorem Oq(r:List ac)(n:bo)(a b:Tr):ev r (.bi n a b)=CK (ev r a) fun x=>CK (ev r b) fun y=>dz n.Tag x y:=rfl
theorem mT{q:ac×Int}{f:ac→ac×Int}(h:q.2=0):CK q f=f q.1:=aW h
theorem i9{q:ac×Int}{f:ac→ac×Int}(h:q.2≠0):CK q f=q:=aM h
theorem mR(r:List ac)(t:Tr):t.wf→SR t→xq r t→((ev r t).2=0∧Pl (ev r t).1)∨ev r t=(zV,201)∨ev r t=(zV,140):=by
 induction t with
 |lf n=>
  intro⟨h1,h2,_,_⟩ hr hc
  unfold ev
  split
  ·rename_i ht;exact .inl ⟨rfl,Eg (Zw h2 ht) hr⟩
  ·rename_i ht
   have ht2:n.Tag=2:=(Yw h1).resolve_left ht
   obtain⟨_,v,hv,hp⟩:=hc ht2
   rw [hv];exact .inl ⟨rfl,hp⟩
 |un n a ih=>
  intro⟨⟨h1,_,_,_⟩,ha⟩ hr hc
  rw [Oo]
  rcases ih ha hr hc with⟨h2,h3⟩|h2|h2
  ·rw [mT h2]
   rcases va h1 (by decide) h3 h3 with⟨h4,h5,_⟩|⟨h4,_⟩|⟨h4,_⟩
   ·exact .inl ⟨h4,h5⟩
   ·exact .inr (.inl h4)
   ·exact .inr (.inr h4)
  ·rw [h2,i9 (by decide)];exact .inr (.inl rfl)
  ·rw [h2,i9 (by decide)];exact .inr (.inr rfl)
 |bi n a b iha ihb=>
  intro⟨⟨h1,_,_,_⟩,ha,hb⟩ ⟨hra,hrb⟩ ⟨hca,hcb⟩
  rw [Oq]
  rcases iha ha hra hca with⟨h2,h3⟩|h2|h2
  ·rw [mT h2]
   rcases ihb hb hrb hcb with⟨k2,k3⟩|k2|k2
   ·rw [mT k2]
    rcases va h1 (by decide) h3 k3 with⟨h4,h5,_⟩|⟨h4,_⟩|⟨h4,_⟩
    ·exact .inl ⟨h4,h5⟩
    ·exact .inr (.inl h4)
    ·exact .inr (.inr h4)
   ·rw [k2,i9 (by decide)];exact .inr (.inl rfl)
   ·rw [k2,i9 (by decide)];exact .inr (.inr rfl)
  ·rw [h2,i9 (by decide)];exact .inr (.inl rfl)
  ·rw [h2,i9 (by decide)];exact .inr (.inr rfl)
theorem HI(stack l:List ac)(h:stack.length+l.length≤100000):kw (stack++l) (l.length:Int)=some (l,stack):=by
 unfold kw fK
 have e:IntKind.i64.wrap (((stack++l).length:Int)-(l.length:Int))=(stack.length:Int):=by
  rw [iO,cx (by omega) (by omega)];omega
 rw [e,lD stack.length (stack++l).length rfl rfl (by simp) (dF _)]
 simp only [aY,wK,F9 (dF _),List.drop_length,kz]
 rw [cr (by simp;omega)]
 simp only [aY,kz]
 rw [lD (i:=0) 0 stack.length rfl rfl (ln _) (by simp)]
 simp
theorem xO(stack:List ac){b:Int}(h:b≠0):gu b stack=some (zV,b):=by
 unfold gu;rw [aW (by simpa using h)];rfl
theorem G4(r:List ac)(n:bo)(h:pk n.Tag=some k)(hk:k≠0){b:ac}(ha:Pl a)(hb:Pl b){l:List ac}(h0:cE l 0=some a)(h1:cE l (IntKind.i64.wrap ((l.length:Int)-1))=some b):
  iI r A2 n l=some ((BD n.Tag a b).1,(dz n.Tag a b).2):=by
 have hn:=QN h hk
 unfold iI
 rw [aM (by simp;omega),aM (by simp;omega),h0]
 simp only [aY]
 rw [h1]
 simp only [aY]
 have:=Yf h hk ha hb
 unfold Vq at this
 rw [this]
 simp only [aY]
 unfold pO
 rcases va h hk ha hb with⟨h2,_,h4⟩|⟨h2,h4⟩|⟨h2,h4,_⟩
 ·rw [h4]at h2;rw [h4,h2];rfl
 ·rw [h2,h4];rfl
 ·rw [h2,h4];rfl
theorem L0(r:List ac)(t:Tr):t.wf→SR t→xq r t→ ∀(s:Nat) (rest:List bo) (stack:List ac),stack.length+t.size≤50000→
  dI (iI r A2) (t.flat s++rest) 0 stack=if(ev r t).2=0 then dI (iI r A2) rest 0 (stack++[(ev r t).1])else some (zV,(ev r t).2):=by
 induction t with
 |lf n=>
  intro⟨h1,h2,h3,h4⟩ hr hc s rest stack hl
  simp only [Tr.flat,Tr.size,wC,kz]at hl ⊢
  rw [dI]
  have e1:(gT n (-1) (-1)).Tag=n.Tag:=rfl
  rw [e1,m7 h1]
  have h0:=HI stack [] (by simp;omega)
  simp only [su,ph]at h0
  simp only [aY]
  rw [h0]
  simp only [aY]
  have hv:iI r A2 (gT n (-1) (-1)) []=some (ev r (.lf n)):=by
   unfold iI ev
   simp only [e1]
   rcases Yw h1 with ht|ht
   ·rw [aW (by simp [ht]),aW ht];rfl
   ·rw [aM (by simp [ht]),aW (by simp [ht]),aM (by simp [ht])]
    have hb:=ML h2 ht
    obtain⟨hm,v,hv,_⟩:=hc ht
    have e2:(gT n (-1) (-1)).Col=n.Col:=rfl
    rw [e2,gM n.Col.toNat (by omega),hv]
    rfl
  have e0:(ev r (.lf n)).2=0:=by unfold ev;split<;>rfl
  rw [hv,aW e0]
  simp only [aY,e0]
  rw [aM (by simp),cr (by simp;omega)]
  rfl
 |un n a ih=>
  intro⟨⟨h1,h2,h3,h4⟩,ha⟩ hr hc s rest stack hl
  simp only [Tr.flat,Tr.size,jv]at hl ⊢
  rw [Oo,ih ha hr hc s _ stack (by omega)]
  by_cases hx:(ev r a).2=0
  ·have hp:Pl (ev r a).1:=by
    rcases mR r a ha hr hc with⟨_,h⟩|h|h
    ·exact h
    ·rw [h]at hx;cases hx
    ·rw [h]at hx;cases hx
   rw [aW hx,mT hx]
   generalize (ev r a).1=x at hp
   simp only [wC,kz]
   rw [dI]
   have e1:(gT n (((s+a.size:Nat):Int)-1) (-1)).Tag=n.Tag:=rfl
   rw [e1,m7 h1]
   have h0:=HI stack [x] (by simp;omega)
   simp only [aY]
   have e0:(([x]:List ac).length:Int)=((1:Nat):Int):=rfl
   rw [←e0,h0]
   simp only [aY]
   rw [G4 r (gT n (((s+a.size:Nat):Int)-1) (-1)) (k:=1) h1 (by decide) hp hp rfl rfl]
   simp only [aY,e1]
   rcases va h1 (by decide) hp hp with⟨h5,_,h6⟩|⟨h5,_⟩|⟨h5,_⟩
   ·rw [aM (by simp [h5]),aW h5,cr (by simp;omega),h6];rfl
   ·rw [h5,aW (by decide),xO _ (by decide),aM (by decide)]
   ·rw [h5,aW (by decide),xO _ (by decide),aM (by decide)]
  ·rw [aM hx,i9 hx,aM hx]
 |bi n a b iha ihb=>
  intro⟨⟨h1,h2,h3,h4⟩,ha,hb⟩ ⟨hra,hrb⟩ ⟨hca,hcb⟩ s rest stack hl
  simp only [Tr.flat,Tr.size,jv]at hl ⊢
  rw [Oq,iha ha hra hca s _ stack (by omega)]
  by_cases hx:(ev r a).2=0
  ·have hp:Pl (ev r a).1:=by
    rcases mR r a ha hra hca with⟨_,h⟩|h|h
    ·exact h
    ·rw [h]at hx;cases hx
    ·rw [h]at hx;cases hx
   rw [aW hx,mT hx]
   generalize (ev r a).1=x at hp
   rw [ihb hb hrb hcb (s+a.size) _ (stack++[x]) (by have:=a.size_pos;simp;omega)]
   by_cases hy:(ev r b).2=0
   ·have hq:Pl (ev r b).1:=by
     rcases mR r b hb hrb hcb with⟨_,h⟩|h|h
     ·exact h
     ·rw [h]at hy;cases hy
     ·rw [h]at hy;cases hy
    rw [aW hy,mT hy]
    generalize (ev r b).1=y at hq
    have hap:=a.size_pos
    simp only [wC,kz]
    rw [dI]
    have e1:(gT n (((s+a.size:Nat):Int)-1) (((s+a.size+b.size:Nat):Int)-1)).Tag=n.Tag:=rfl
    rw [e1,m7 h1]
    have h0:=HI stack [x,y] (by simp;omega)
    simp only [aY]
    have e0:(([x,y]:List ac).length:Int)=((2:Nat):Int):=rfl
    have e9:stack++[x]++[y]=stack++[x,y]:=by simp
    rw [←e0,e9,h0]
    simp only [aY]
    rw [G4 r (gT n (((s+a.size:Nat):Int)-1) (((s+a.size+b.size:Nat):Int)-1)) (k:=2) h1 (by decide) hp hq rfl rfl]
    simp only [aY,e1]
    rcases va h1 (by decide) hp hq with⟨h5,_,h6⟩|⟨h5,_⟩|⟨h5,_⟩
    ·rw [aM (by simp [h5]),aW h5,cr (by simp;omega),h6];rfl
    ·rw [h5,aW (by decide),xO _ (by decide),aM (by decide)]
    ·rw [h5,aW (by decide),xO _ (by decide),aM (by decide)]
   ·rw [aM hy,i9 hy,aM hy]
  ·rw [aM hx,i9 hx,aM hx]
def yF(r:List ac)(c:Int):Bool:=decide (c<(r.length:Int))&&mt ((r[c.toNat]?).getD zV)
def s9(r:List ac)(ns:List bo):Bool:=ns.all fun n=> !(n.Tag==2)||yF r n.Col
def Lf(ns:List bo):Prop:= ∀n∈ns,r64 n.Value.N
def Ti(r:List ac):Prop:= ∀v∈r,r64 v.N
theorem PJ(hr:Ti r){c:Int}(h0:0≤c)(h:yF r c=true):c.toNat<r.length∧ ∃v,r[c.toNat]? =some v∧Pl v:=by
 unfold yF at h
 rw [lr,kZ]at h
 have hlt:c.toNat<r.length:=by omega
 refine⟨hlt,r[c.toNat],n8 hlt,?_⟩
 have h2:=h.2
 rw [n8 hlt]at h2
 exact Eg h2 (hr _ (F4 hlt))
theorem vV(hr:Ti r)(t:Tr):t.wf→ ∀s,s9 r (t.flat s)=true→xq r t:=by
 induction t with
 |lf n=>
  intro⟨_,h2,_,_⟩ s h ht
  simp only [s9,Tr.flat,wq,List.all_nil,yH]at h
  have e1:(gT n (-1) (-1)).Tag=n.Tag:=rfl
  have e2:(gT n (-1) (-1)).Col=n.Col:=rfl
  rw [e1,e2,ht]at h
  exact PJ hr (ML h2 ht).1 (by simpa using h)
 |un n a ih=>
  intro⟨_,ha⟩ s h
  simp only [s9,Tr.flat,List.all_append,lr]at h
  exact ih ha s h.1
 |bi n a b iha ihb=>
  intro⟨_,ha,hb⟩ s h
  simp only [s9,Tr.flat,List.all_append,lr]at h
  exact⟨iha ha s h.1.1,ihb hb _ h.1.2⟩
theorem Au(t:Tr): ∀s,Lf (t.flat s)→SR t:=by
 induction t with
 |lf n=>intro s h;exact h (gT n (-1) (-1)) (by simp [Tr.flat])
 |un n a ih=>intro s h;exact ih s fun m hm=>h m (by simp [Tr.flat,hm])
 |bi n a b iha ihb=>intro s h;exact⟨iha s fun m hm=>h m (by simp [Tr.flat,hm]),ihb _ fun m hm=>h m (by simp only [Tr.flat,zY];exact .inl (.inr hm))⟩
theorem DG{t:Tr}(hw:t.wf): ∀s {n:bo},n∈t.flat s→n.Tag=2→0≤n.Col∧n.Col<16:=by
 induction t with
 |lf m=>
  intro s n hn ht
  simp only [Tr.flat,CO]at hn
  subst hn
  exact ML hw.2.1 ht
 |un m a ih=>
  intro s n hn ht
  simp only [Tr.flat,zY,CO]at hn
  rcases hn with hn|rfl
  ·exact ih hw.2 s hn ht
  ·exact absurd (pk2 hw.1.1 ht) (by decide)
 |bi m a b iha ihb=>
  intro s n hn ht
  simp only [Tr.flat,zY,CO]at hn
  rcases hn with(hn|hn)|rfl
  ·exact iha hw.2.1 s hn ht
  ·exact ihb hw.2.2 _ hn ht
  ·exact absurd (pk2 hw.1.1 ht) (by decide)
def od(r:List ac)(ns:List bo):ac×Int:=match mg ns with
 |none=>(zV,200)
 |some t=>if s9 r ns then ev r t else(zV,2)
theorem Fb(e:bL)(r:List ac)(x:ac): ∀cs:List Int,(∀c∈cs,0≤c)→nV e r cs x=if cs.all (yF r)then iB e (iI r A2)else some (zV,2)
 |[],_=>by
  unfold nV
  rw [Il]
  simp only [aY]
  cases iB e (iI r A2)<;>rfl
 |c::cs,hc=>by
  unfold nV
  rw [Fb e r x cs fun c hm=>hc c (kC _ hm)]
  have h0:=hc c (kE ..)
  by_cases h:(r.length:Int)≤c
  ·have hb:yF r c=false:=by unfold yF;rw [Bool.and_eq_false_iff];left;simp;omega
   simp [h,hb,zV]
  ·have hlt:c.toNat<r.length:=by omega
   have e1:cE r c=some r[c.toNat]:=by rw [gM c.toNat (by omega),n8 hlt]
   have hb:yF r c=mt r[c.toNat]:=by
    unfold yF
    rw [n8 hlt]
    have:decide (c<(r.length:Int))=true:=by simp;omega
    rw [this];rfl
   rw [aW (by simpa using h),e1]
   simp only [aY,sy]
   rw [wq,hb]
   cases mt r[c.toNat]<;>simp [zV]
theorem Jy(r:List ac){t:Tr}(hw:t.wf)(hr:SR t)(hc:xq r t)(hs:t.size≤1000):iB ⟨t.flat 0⟩ (iI r A2)=some (ev r t):=by
 unfold iB
 have h:=L0 r t hw hr hc 0 [] [] (by simp;omega)
 rw [su]at h
 rw [h]
 rcases mR r t hw hr hc with⟨h2,h3⟩|h2|h2
 ·rw [aW h2]
  unfold dI gu
  rw [aM (by simp)]
  simp only [kz]
  rw [show cE [(ev r t).1] 0=some (ev r t).1 from rfl]
  simp only [aY]
  congr 1
  exact Prod.ext rfl h2.symm
 ·rw [h2,aM (by decide)]
 ·rw [h2,aM (by decide)]
theorem vR(e:bL)(r:List ac)(hl:e.Nodes.length≤50000)(he:Lf e.Nodes)(hr:Ti r):sn e r=some (od r e.Nodes):=by
 unfold sn od
 rw [ux e (by omega)]
 cases ht:mg e.Nodes with
 |none=>
  have:jP e.Nodes=false:=by unfold jP;rw [ht];rfl
  rw [this];rfl
 |some t=>
  have hri:jP e.Nodes=true:=by unfold jP;rw [ht];rfl
  obtain⟨hw,hN,hs⟩:=jU ht
  rw [hri]
  simp only [fe,aY]
  rw [aM (by decide)]
  obtain⟨cs,h1,h2⟩:=AX e hri
  rw [h1]
  simp only [aY]
  have hcnt: ∀n∈e.Nodes,n.Tag=2→0≤n.Col:=fun n hn htag=>by
   rw [hN]at hn
   exact(DG hw 0 hn htag).1
  rw [Fb e r _ cs fun c hc=>by obtain⟨n,hn,htag,rfl⟩:=(h2 c).1 hc;exact hcnt n hn htag]
  have hcols:cs.all (yF r)=s9 r e.Nodes:=by
   rw [zX,ju]
   unfold s9
   rw [ju]
   constructor
   ·intro h n hn
    by_cases htag:n.Tag=2
    ·rw [h n.Col ((h2 _).2 ⟨n,hn,htag,rfl⟩)];simp
    ·simp [htag]
   ·intro h c hc
    obtain⟨n,hn,htag,rfl⟩:=(h2 c).1 hc
    have:=h n hn
    simpa [htag] using this
  rw [hcols]
  cases hb:s9 r e.Nodes with
  |false=>rfl
  |true=>
   simp only [fe]
   have e9:e=⟨t.flat 0⟩:=by cases e;simp only at hN;rw [hN]
   rw [hN]at he hb
   rw [e9]
   exact Jy r hw (Au t 0 he) (vV hr t hw 0 hb) hs


variable{ka kb:Int}
theorem JP(ht:tag=4∨tag=12∨tag=13∨tag=14∨tag=15):kn tag ka kb=(2,(ka==2||ka==0)&&(kb==2||kb==0)):=by
 rcases ht with rfl|rfl|rfl|rfl|rfl<;>(unfold kn iU im;cases (ka==2||ka==0)<;>cases (kb==2||kb==0)<;>rfl)
theorem Q9(ht:tag=5∨tag=22∨tag=23):kn tag ka kb=(1,(ka==1||ka==0)&&(kb==1||kb==0)):=by
 rcases ht with rfl|rfl|rfl<;>(unfold kn iU im;cases (ka==1||ka==0)<;>cases (kb==1||kb==0)<;>rfl)
def qm(v:ac)(k:Int):Prop:=v.Kind=k∨v.Kind=0
theorem Jq(h:pk tag=some k)(hk:k≠0){b:ac}(ha:Pl a)(hb:Pl b)(h1:qm a ka)(h2:k=1∧b=a∧kb=0∨k=2∧qm b kb)(hn:(kn tag ka kb).2=true):
  ((BD tag a b).2=0∧qm (BD tag a b).1 (kn tag ka kb).1)∨BD tag a b=(zV,140):=by
 have har: ∀t x y,qm x 2→qm y 2→((wx t x y).2=0∧qm (wx t x y).1 2)∨wx t x y=(zV,140):=by
  intro t x y hx hy
  unfold wx
  rw [aW ⟨hx.symm,hy.symm⟩]
  split
  ·exact .inl ⟨rfl,.inr rfl⟩
  ·split
   ·exact .inl ⟨rfl,.inl rfl⟩
   ·exact .inr rfl
 have hbv: ∀x,(bV x).Kind=1:=fun _=>rfl
 have htv: ∀{v},Tu v→qm v 1:=fun h=>by cases h;exact .inr rfl;exact .inl rfl
 have hh: ∀f,(a.Kind=b.Kind∨a.Kind=0∨b.Kind=0)→(eK f a b).2=0∧(eK f b a).2=0:=by
  intro f hx
  unfold eK
  constructor
  ·split
   ·rfl
   ·rw [aW (by rename_i h9;simp only [not_or]at h9;rcases hx with h|h|h;exact h;exact absurd h h9.1;exact absurd h h9.2)]
  ·split
   ·rfl
   ·rw [aW (by rename_i h9;simp only [not_or]at h9;rcases hx with h|h|h;exact h.symm;exact absurd h h9.2;exact absurd h h9.1)]
 have hkk:k=2→(ka=kb∨ka=0∨kb=0)→(a.Kind=b.Kind∨a.Kind=0∨b.Kind=0):=by
  intro h9 h
  rcases h2 with⟨h5,_⟩|⟨_,h2⟩
  ·omega
  unfold qm at h1 h2
  rcases h with h|h|h<;>rcases h1 with h1|h1<;>rcases h2 with h2|h2<;>simp_all
 have hno: ∀f x y,(eK f x y).2=0→(Eo (eK f x y)).2=0∧qm (Eo (eK f x y)).1 1:=by
  intro f x y h9
  unfold Eo
  rw [aW h9]
  exact⟨rfl,htv (Da (q8 f x y h9))⟩
 have h3:k=2→qm b kb:=by intro h9;rcases h2 with⟨h5,_⟩|⟨_,h2⟩;omega;exact h2
 have h10: ∀{x:ac} {kx:Int},qm x kx→kx=2∨kx=0→qm x 2:=by
  intro x kx h h';unfold qm at*;omega
 have h11: ∀{x:ac} {kx:Int},qm x kx→kx=1∨kx=0→x.Kind≤1:=by
  intro x kx h h';unfold qm at*;omega
 rcases QN h hk with rfl|rfl|rfl|rfl|rfl|rfl|rfl|rfl|rfl|rfl|rfl|rfl|rfl|rfl|rfl|rfl
 ·rw [JP (by decide)]at hn ⊢
  have hx:ka=2∨ka=0:=by simp at hn;exact hn.1
  have:=har 13 (iV 0) a (.inl rfl) (h10 h1 hx)
  exact this
 ·rw [Q9 (by decide)]at hn ⊢
  have hx:ka=1∨ka=0:=by simp at hn;exact hn.1
  have e:BD 5 a b=(FT a,0):=by
   show(if a.Kind≤1 then(FT a,0)else(zV,2))=_
   rw [aW (h11 h1 hx)]
  rw [e];exact .inl ⟨rfl,htv (Da ((iP ha).2 (h11 h1 hx)))⟩
 ·exact .inl ⟨rfl,.inl rfl⟩
 ·exact .inl ⟨rfl,.inl rfl⟩
 all_goals have hk2:k=2:=by simp [pk]at h;omega
 all_goals have hb3:=h3 hk2
 ·rw [JP (by decide)]at hn ⊢
  have hx:(ka=2∨ka=0)∧(kb=2∨kb=0):=by simp at hn;exact hn
  exact har 12 a b (h10 h1 hx.1) (h10 hb3 hx.2)
 ·rw [JP (by decide)]at hn ⊢
  have hx:(ka=2∨ka=0)∧(kb=2∨kb=0):=by simp at hn;exact hn
  exact har 13 a b (h10 h1 hx.1) (h10 hb3 hx.2)
 ·rw [JP (by decide)]at hn ⊢
  have hx:(ka=2∨ka=0)∧(kb=2∨kb=0):=by simp at hn;exact hn
  exact har 14 a b (h10 h1 hx.1) (h10 hb3 hx.2)
 ·rw [JP (by decide)]at hn ⊢
  have hx:(ka=2∨ka=0)∧(kb=2∨kb=0):=by simp at hn;exact hn
  exact har 15 a b (h10 h1 hx.1) (h10 hb3 hx.2)
 ·have hx:ka=kb∨ka=0∨kb=0:=by simp [kn,iU,im]at hn;omega
  have:=(hh (fun c=>c==0) (hkk hk2 hx)).1
  exact .inl ⟨this,htv (q8 _ a b this)⟩
 ·have hx:ka=kb∨ka=0∨kb=0:=by simp [kn,iU,im]at hn;omega
  exact .inl (hno (fun c=>c==0) a b (hh _ (hkk hk2 hx)).1)
 ·have hx:ka=kb∨ka=0∨kb=0:=by simp [kn,iU,im]at hn;omega
  have:=(hh (fun c=>decide (c<0)) (hkk hk2 hx)).1
  exact .inl ⟨this,htv (q8 _ a b this)⟩
 ·have hx:ka=kb∨ka=0∨kb=0:=by simp [kn,iU,im]at hn;omega
  exact .inl (hno (fun c=>decide (c<0)) b a (hh _ (hkk hk2 hx)).2)
 ·have hx:ka=kb∨ka=0∨kb=0:=by simp [kn,iU,im]at hn;omega
  have:=(hh (fun c=>decide (c<0)) (hkk hk2 hx)).2
  exact .inl ⟨this,htv (q8 _ b a this)⟩
 ·have hx:ka=kb∨ka=0∨kb=0:=by simp [kn,iU,im]at hn;omega
  exact .inl (hno (fun c=>decide (c<0)) a b (hh _ (hkk hk2 hx)).1)
 ·rw [Q9 (by decide)]at hn ⊢
  have hx:(ka=1∨ka=0)∧(kb=1∨kb=0):=by simp at hn;exact hn
  have e:BD 22 a b=(EY a b,0):=by
   show(if a.Kind≤1∧b.Kind≤1 then(EY a b,0)else(zV,2))=_
   rw [aW ⟨h11 h1 hx.1,h11 hb3 hx.2⟩]
  rw [e];exact .inl ⟨rfl,htv (OG ((iP ha).2 (h11 h1 hx.1)) ((iP hb).2 (h11 hb3 hx.2)))⟩
 ·rw [Q9 (by decide)]at hn ⊢
  have hx:(ka=1∨ka=0)∧(kb=1∨kb=0):=by simp at hn;exact hn
  have e:BD 23 a b=(SS a b,0):=by
   show(if a.Kind≤1∧b.Kind≤1 then(SS a b,0)else(zV,2))=_
   rw [aW ⟨h11 h1 hx.1,h11 hb3 hx.2⟩]
  rw [e];exact .inl ⟨rfl,htv (QR ((iP ha).2 (h11 h1 hx.1)) ((iP hb).2 (h11 hb3 hx.2)))⟩
def kindR(kinds:List Int)(r:List ac):Prop:= ∀(j:Nat) (k:Int),kinds[j]? =some k→ ∃v,r[j]? =some v∧Pl v∧qm v k
theorem Y3(hk4: ∀k∈kinds,k4 k)(hr:kindR kinds r)(t:Tr):t.wf→SR t→xq r t→CF kinds.length t→ ∀{k},kd kinds t=some k→
  ((ev r t).2=0∧qm (ev r t).1 k)∨(ev r t=(zV,140)∧ ∀s,(t.flat s).any Yq=true):=by
 induction t with
 |lf n=>
  intro⟨h1,h2,_,_⟩ hg hc hcT k hk
  unfold kd at hk
  unfold ev
  split at hk
  ·rename_i ht;rw [aW ht];cases hk;exact .inl ⟨rfl,.inl rfl⟩
  ·rename_i ht
   have ht2:n.Tag=2:=(Yw h1).resolve_left ht
   have hlt:=hcT ht2
   have h0:=(ML h2 ht2).1
   rw [aM ht]
   have hgk:kinds[n.Col.toNat]? =some k:=by
    rw [n8 (by omega)]at hk ⊢
    simpa using hk
   obtain⟨v,h3,h4,h5⟩:=hr _ _ hgk
   rw [h3];exact .inl ⟨rfl,h5⟩
 |un n a ih=>
  intro⟨⟨h1,_,_,_⟩,ha⟩ hg hc hcT k hk
  rw [NO]at hk
  cases hx:kd kinds a with
  |none=>rw [hx]at hk;cases hk
  |some x=>
   rw [hx,aY]at hk
   split at hk
   ·rename_i hkn
    cases hk
    rw [Oo]
    rcases ih ha hg hc hcT hx with⟨h2,h3⟩|⟨h2,h3⟩
    ·rw [mT h2]
     have hp:Pl (ev r a).1:=by
      rcases mR r a ha hg hc with⟨_,h⟩|h|h
      ·exact h
      ·rw [h]at h2;cases h2
      ·rw [h]at h2;cases h2
     unfold dz
     rcases Jq h1 (by decide) hp hp h3 (.inl ⟨rfl,rfl,rfl⟩) hkn with⟨h4,h5⟩|h4
     ·rw [aW h4];exact .inl ⟨h4,h5⟩
     ·rcases BC h1 (by decide) hp hp with⟨h6,_⟩|h6|⟨_,h6⟩
      ·rw [h4]at h6;cases h6
      ·rw [h4]at h6;cases h6
      ·rw [h4]
       exact .inr ⟨rfl,fun s=>by simp only [Tr.flat,F0,uG,List.any_nil,Bool.or_false,pi];right;simp only [Yq];have:(gT n (((s+a.size:Nat):Int)-1) (-1)).Tag=n.Tag:=rfl;rw [this];simp;omega⟩
    ·rw [h2,i9 (by decide)]
     exact .inr ⟨rfl,fun s=>by simp only [Tr.flat,F0,pi];exact .inl (h3 s)⟩
   ·cases hk
 |bi n a b iha ihb=>
  intro⟨⟨h1,_,_,_⟩,ha,hb⟩ ⟨hga,hgb⟩ ⟨hca,hcb⟩ ⟨hTa,hTb⟩ k hk
  rw [JZ]at hk
  cases hx:kd kinds a with
  |none=>rw [hx]at hk;cases hk
  |some x=>
   cases hy:kd kinds b with
   |none=>rw [hx,hy]at hk;cases hk
   |some y=>
    rw [hx,hy]at hk
    simp only [aY]at hk
    split at hk
    ·rename_i hkn
     cases hk
     rw [Oq]
     rcases iha ha hga hca hTa hx with⟨h2,h3⟩|⟨h2,h3⟩
     ·rw [mT h2]
      have hp:Pl (ev r a).1:=by
       rcases mR r a ha hga hca with⟨_,h⟩|h|h
       ·exact h
       ·rw [h]at h2;cases h2
       ·rw [h]at h2;cases h2
      rcases ihb hb hgb hcb hTb hy with⟨q2,q3⟩|⟨q2,q3⟩
      ·rw [mT q2]
       have hq:Pl (ev r b).1:=by
        rcases mR r b hb hgb hcb with⟨_,h⟩|h|h
        ·exact h
        ·rw [h]at q2;cases q2
        ·rw [h]at q2;cases q2
       unfold dz
       rcases Jq h1 (by decide) hp hq h3 (.inr ⟨rfl,q3⟩) hkn with⟨h4,h5⟩|h4
       ·rw [aW h4];exact .inl ⟨h4,h5⟩
       ·rcases BC h1 (by decide) hp hq with⟨h6,_⟩|h6|⟨_,h6⟩
        ·rw [h4]at h6;cases h6
        ·rw [h4]at h6;cases h6
        ·rw [h4]
         exact .inr ⟨rfl,fun s=>by simp only [Tr.flat,F0,uG,List.any_nil,Bool.or_false,pi];right;simp only [Yq];have:(gT n (((s+a.size:Nat):Int)-1) (((s+a.size+b.size:Nat):Int)-1)).Tag=n.Tag:=rfl;rw [this];simp;omega⟩
      ·rw [q2,i9 (by decide)]
       exact .inr ⟨rfl,fun s=>by simp only [Tr.flat,F0,pi];exact .inl (.inr (q3 _))⟩
     ·rw [h2,i9 (by decide)]
      exact .inr ⟨rfl,fun s=>by simp only [Tr.flat,F0,pi];exact .inl (.inl (h3 s))⟩
    ·cases hk
theorem Ra{e:bL}(h:(fO e kinds).2=0): ∃t,mg e.Nodes=some t∧(∀k∈kinds,k4 k)∧qw kinds.length e.Nodes=true∧kd kinds t=some (fO e kinds).1:=by
 unfold fO at h ⊢
 split at h
 ·rename_i h1
  rw [aW h1]
  split at h
  ·rename_i h2
   rw [aW h2]
   split at h
   ·rename_i h3
    rw [aW h3]
    unfold jP at h1
    cases ht:mg e.Nodes with
    |none=>rw [ht]at h1;cases h1
    |some t=>
     rw [ht]at h
     simp only [aY]at h ⊢
     cases hk:kd kinds t with
     |none=>rw [hk]at h;cases h
     |some k=>exact⟨t,rfl,fun k hk=>xS h2 hk,h3,hk⟩
   ·cases h
  ·cases h
 ·cases h
theorem Pr(ns:List bo)(hl:ns.length≤200)(hg:Lf ns)(kinds:List Int)(h:(fO ⟨ns⟩ kinds).2=0)(own:List ac)(hr:kindR kinds own)(hrg:Ti own)(hlen:own.length=kinds.length):
  ((od own ns).2=0∧Pl (od own ns).1∧qm (od own ns).1 (fO ⟨ns⟩ kinds).1)∨((od own ns).2=140∧ns.any Yq=true):=by
 obtain⟨t,ht,hk4,hcols,hkd⟩:=Ra h
 obtain⟨hw,hN,hs⟩:=jU ht
 have hN:ns=t.flat 0:=hN
 have hcT:CF kinds.length t:=xr _ t hw 0 (by rw [←hN];exact hcols)
 have hcB:s9 own ns=true:=by
  unfold s9
  rw [ju]
  intro n hn
  by_cases htag:n.Tag=2
  ·have hc:=ju.1 hcols n hn
   have h0:=(DG hw 0 (by rw [←hN];exact hn) htag).1
   simp [htag]at hc ⊢
   have hlt:n.Col.toNat<kinds.length:=by omega
   obtain⟨v,hv,hp,_⟩:=hr n.Col.toNat kinds[n.Col.toNat] (n8 hlt)
   unfold yF
   rw [hv]
   have e1:decide (n.Col<(own.length:Int))=true:=by simp;omega
   rw [e1];simpa using hp.plain
  ·simp [htag]
 have hcV:xq own t:=vV hrg t hw 0 (by rw [←hN];exact hcB)
 have hgT:=Au t 0 (by rw [←hN];exact hg)
 have hev:od own ns=ev own t:=by unfold od;rw [ht];simp [hcB]
 rw [hev]
 rcases Y3 hk4 hr t hw hgT hcV hcT hkd with⟨h2,h3⟩|⟨h2,h3⟩
 ·left
  refine⟨h2,?_,h3⟩
  rcases mR own t hw hgT hcV with⟨_,h⟩|h|h
  ·exact h
  ·rw [h]at h2;cases h2
  ·rw [h]at h2;cases h2
 ·right
  rw [h2]
  exact⟨rfl,by rw [hN];exact h3 0⟩

def sh(s:Nat)(x:Int):Int:=if 0≤x then x+(s:Int)else x
def cb(r:List ac):Tr→Bool
 | .lf n=> !(n.Tag==2)||yF r n.Col
 | .un _ a=>cb r a
 | .bi _ a b=>cb r a&&cb r b

def us(s:Nat)(x:Int):Int:=if 0≤x then x-(s:Int)else x

def fA(v:ac)(l:List ac):ac:=l.foldl EY v

theorem jI{a b:Bool}(h:a=true↔b=true):a=b:=by cases a<;>cases b<;>simp_all
end Go.Proofs.YtfhhakidodmdfaaGreatDoor

