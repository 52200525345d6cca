import Derived.Test.YtaehdhmbgmbgiaaGreatDoorKkR15
import Derived.KernelRfl
import Derived.Test.YtaehdhmbgmbgiaaGreatDoorKkV4
set_option linter.all false
namespace Go.Proofs.YtaehdhmbgmbgiaaGreatDoor
open Go IntKind
abbrev cK:=List ac
variable{n:av}
def wR{n:Int}(h: -9223372036854775808<=n)(M:n<=9223372036854775807):i64.wrap n=n:=by
 rw [Kn];omega
variable{α:Type}{xs:List α}
def cF{ys:List α}(h:xs.length+ys.length<=68719476736):app xs ys=some (xs++ys):=bz h
variable{i:Nat}
def aam:cO xs (i:Int)=(xs.drop i).head? :=by
 rw [cG,List.head?_drop]
def j9(v:ac):Bool:=(n8 v).getD false
def Ls(v:ac):n8 v=some (j9 v):=by
 unfold j9 n8;repeat' split
 all_goals rfl
def rX(v:ac):o3 v=some (if j9 v then 0 else 120):=by
 obtain⟨k,n,u,s⟩:=v;unfold j9 n8 o3 Ct;simp only [oB,vl,vk,vj];by_cases h0:k=0
 ·subst h0;simp;repeat' split
  all_goals simp_all
 by_cases I:k=1
 ·subst I;by_cases n0:n=0
  ·subst n0;simp;repeat' split
   all_goals simp_all
  by_cases n1:n=1
  ·subst n1;simp;repeat' split
   all_goals simp_all
  simp [n0,n1]
 by_cases M:k=2
 ·subst M;simp;repeat' split
  all_goals simp_all
 by_cases h3:k=3
 ·subst h3;simp;repeat' split
  all_goals simp_all
 by_cases h4:k=4
 ·subst h4;simp;repeat' split
  all_goals simp_all
 simp [h0,I,M,h3,h4]
def oE(r:cK):Bool:=decide (r.length<=16)&&r.all j9
def Ln(v:ac):wV v=some (!j9 v):=by
 unfold wV;rw [rX];cases j9 v<;>rfl
variable{f:α->α->Int}{l:aZ}
def Ii{f:ac->Option Bool}{g:ac->Bool}(hf: ∀v,f v=some (g v))(l:cK):jC l f=some (l.any g):=by
 have key: ∀(l:cK) (i:Nat),(dT f l i).bind (fun r=>some (decide ((0:Int)<=r)))=some (l.any g):=by
  intro l
  induction l with
  |nil=>intro i;simp [dT]
  |cons e t ih=>intro i;simp only [dT,hf,bw];cases h:g e<;>simp [ih,h]
 exact key l 0
def Bk(r:cK):ym r=some (oE r):=by
 unfold ym oE;rw [Ii (g:=fun v=> !j9 v) Ln];by_cases h:r.length<=16
 ·rw [bz (by simp;omega)];simp [h,List.all_eq_not_any_not]
 ·rw [aR (by simp;omega)];simp [h]
def Uo{r:cK}(h:oE r=true):r.length<=16:=by
 unfold oE at h;simp at h;exact h.1
def pu: ∀s:Fy,Op.bytesLess s s=false
 |[]=>rfl
 |a::s=>by
  unfold Op.bytesLess;simp [pu s]
def orL:List Int->Int
 |[]=>0
 |e::t=>if e !=0 then e else orL t
def H7(l:List Int):uB l=some (orL l):=by
 unfold uB
 induction l with
 |nil=>rfl
 |cons e t ih=>simp only [om,orL];split<;>simp [*]
def val(x y:ac):Int:=(IK x y).getD 0
def Xb(p y:Int):o0 p y=some (if p<y then -1 else if y<p then 1 else 0):=by
 unfold o0 tZ;simp;repeat' split
 all_goals rfl
def OY(p y:Int):nl p y=some (if p<y then -1 else if y<p then 1 else 0):=by
 unfold nl qZ;simp;repeat' split
 all_goals rfl
def OX(p y:Int):qN p y=some (if p<y then -1 else if y<p then 1 else 0):=by
 unfold qN tp;simp;repeat' split
 all_goals rfl
def Xa(p y:Fy):qO p y=some (if Op.bytesLess p y then -1 else if p=y then 0 else 1):=by
 unfold qO tq;by_cases h:p=y
 ·subst h;simp [pu]
 ·cases M:Op.bytesLess p y<;>simp [h]
variable{x:α}
def Ez(x y:ac):uq x y=some (val x y):=by
 unfold uq;rw [Xb,OY,OX,Xa];simp only [bw];rw [H7];unfold val IK yU;simp only [orL,bw];by_cases I:x.Kind=y.Kind
 ·rw [I];by_cases M:x.N=y.N
  ·rw [M];by_cases h3:x.U=y.U
   ·rw [h3];by_cases h4:x.S=y.S
    ·rw [h4];simp [pu]
    ·cases h5:Op.bytesLess x.S y.S<;>simp [h4]
   ·rcases Int.lt_or_gt_of_ne h3 with h|h
    ·simp [h3,h]
    ·have: ¬x.U<y.U:=by omega
     simp [h3,h,this]
  ·rcases Int.lt_or_gt_of_ne M with h|h
   ·simp [M,h]
   ·have: ¬x.N<y.N:=by omega
    simp [M,h,this]
 ·rcases Int.lt_or_gt_of_ne I with h|h
  ·simp [I,h]
  ·have: ¬x.Kind<y.Kind:=by omega
   simp [I,h,this]
def eZ:cK->cK->Int
 |[],[]=>0
 |[],_::_=> -1
 |_::_,[]=>1
 |x::a,y::b=>if val x y !=0 then val x y else eZ a b
def MX(a b:cK):dB a b uq=some (eZ a b):=by
 unfold dB;have key: ∀(l:cK) (i:Nat),a.drop i=l->i<=a.length->cr a b uq l i=some (eZ l (b.drop i)):=by
  intro l
  induction l with
  |nil=>
   intro i I M;have h3:a.length<=i:=Jq.1 I;simp only [cr];by_cases hlt:a.length<b.length
   ·rw [bz (by simp;omega)];rw [zX (by omega:i<b.length)];rfl
   ·rw [aR (by simp;omega),D0 (by omega)];rfl
  |cons x t ih=>
   intro i I M;have hi:i<a.length:=by
    rcases wN i a.length with h|h
    ·exact h
    ·rw [D0 h]at I;cases I
   simp only [cr];have J:=ih (i+1) (by rw [<-uf,I];rfl) (by omega);rcases wN i b.length with h|h
   ·rw [aR (by simp;omega),cG,qg h,zX h,J];simp only [bw,Ez,eZ];split<;>rfl
   ·rw [bz (by simp;omega),D0 h];rfl
 exact key a 0 rfl (nh _)
def Bl(a b:cK):uH a b=some (eZ a b):=by
 unfold uH;rw [MX a b];rfl
def CE(a b:cK):ql a b=some (if oE a&&oE b then eZ a b else 0):=by
 unfold ql;rw [Bk,Bk,Bl];cases ha:oE a<;>cases H:oE b<;>simp
def Bn(a b:cK):uI a b=some (decide (a=b)):=by
 unfold uI mq;by_cases hl:a.length=b.length
 ·rw [aR (by simp [hl])];have key: ∀(l:cK) (i:Nat),a.drop i=l->fV b l i=some (decide (l=b.drop i)):=by
   intro l
   induction l with
   |nil=>
    intro i I;have h3:a.length<=i:=Jq.1 I;rw [D0 (by omega)];rfl
   |cons x t ih=>
    intro i I;have hi:i<a.length:=by
     rcases wN i a.length with h|h
     ·exact h
     ·rw [D0 h]at I;cases I
    have J:=ih (i+1) (by rw [<-uf,I];rfl);simp only [fV];rw [cG,qg (by omega),zX (by omega:i<b.length)];simp only [bw,J];by_cases V:x=b[i]
    ·rw [aR (by simp [V])];exact congrArg some (Rf.2 ⟨fun h=>by rw [V,h],fun h=>(Io h).2⟩)
    ·rw [bz (by simp [V])];exact congrArg some (El (fun h=>V (Io h).1)).symm
  have:=key a 0 rfl;rw [this];simp
 ·rw [bz (by simp;omega)];have:a≠b:=fun e=>hl (by rw [e]);simp [this]
def Ik(r:cK)(h:r.length<=68719476736):dH r=some r:=by
 unfold dH;rw [cF (by simpa using h)];rfl
def EB(l:List cK)(h: ∀r∈l,r.length<=68719476736)(hl:l.length<=68719476736):yO l=some l:=by
 have key: ∀(m out:List cK),(∀r∈m,r.length<=68719476736)->out.length+m.length<=68719476736->q9 m out=some (out++m):=by
  intro m
  induction m with
  |nil=>intro out _ _;simp [q9]
  |cons e t ih=>
   intro out I M;simp only [jo]at M;simp only [q9];rw [Ik e (I e (md ..))];simp only [bw];rw [cF (by simp;omega)];simp only [bw];rw [ih _ (fun r hr=>I r (ma _ hr)) (by simp;omega)];simp
 have:=key l [] h (by simpa using hl);simpa [yO] using this
structure Ij{α:Type}(f:α->α->Int):Prop where
 rng: ∀x y,f x y= -1\/f x y=0\/f x y=1
 anti: ∀x y,f y x= -f x y
 eq: ∀x y,f x y=0↔x=y
 trans: ∀x y z,f x y<=0->f y z<=0->f x z<=0
def Ij.lt(h:Ij f){y z:α}(I:f x y<=0)(M:f y z<=0)(h3:f x y<0\/f y z<0):f x z<0:=by
 have h4:=h.trans x y z I M;rcases h.rng x z with h5|h5|h5
 ·omega
 ·have e:=(h.eq x z).1 h5;subst e;have:=h.anti x y;omega
 ·omega
def Ra(c d:Int):Int:=if c !=0 then c else d
def Ij.lex{β:Type}{g:β->β->Int}(hf:Ij f)(hg:Ij g):Ij (fun(p q:α×β)=>Ra (f p.1 q.1) (g p.2 q.2)) where
 rng:=fun x y=>by
  unfold Ra;split
  ·exact hf.rng _ _
  ·exact hg.rng _ _
 anti:=fun x y=>by
  have I:=hf.anti x.1 y.1;have M:=hg.anti x.2 y.2;unfold Ra;by_cases h:f x.1 y.1=0
  ·have:f y.1 x.1=0:=by omega
   simp [h,this,M]
  ·have:f y.1 x.1≠0:=by omega
   simp [h,I]
 eq:=fun x y=>by
  unfold Ra;by_cases h:f x.1 y.1=0
  ·have e:=(hf.eq _ _).1 h;simp only [h,FY,jM,gT];rw [hg.eq];exact⟨fun M=>Prod.ext e M,fun M=>by rw [M]⟩
  ·simp only [yD,ne_eq,h,Is,hM,false_iff];intro e;exact h ((hf.eq _ _).2 (by rw [e]))
 trans:=fun x y z=>by
  unfold Ra;by_cases I:f x.1 y.1=0
  ·have e:=(hf.eq _ _).1 I;simp only [I,FY,jM,gT];rw [<-e];by_cases M:f x.1 z.1=0
   ·simp only [M,FY,jM,gT];exact hg.trans _ _ _
   ·simp only [yD,ne_eq,M,Is,hM];exact fun _ h=>h
  ·simp only [yD,ne_eq,I,Is,hM];by_cases M:f y.1 z.1=0
   ·have e:=(hf.eq _ _).1 M;have h5:f x.1 z.1≠0:=by rw [<-e];exact I
    simp only [h5,Is,hM];intro h _;rw [<-e];exact h
   ·simp only [M,Is,hM];intro h3 h4;have:=hf.lt h3 h4 (by omega);simp only [show f x.1 z.1≠0 from by omega,Is,hM];omega
def Tj(p y:Int):Int:=if p<y then -1 else if y<p then 1 else 0
def q5:Ij Tj where
 rng:=fun x y=>by
  unfold Tj;repeat' split
  all_goals omega
 anti:=fun x y=>by unfold Tj;repeat' split;all_goals omega
 eq:=fun x y=>by
  unfold Tj;constructor
  ·intro h;repeat' split at h
   all_goals omega
  ·intro h;subst h;simp
 trans:=fun x y z=>by
  unfold Tj;repeat' split
  all_goals omega
def EP: ∀a b:Fy,Op.bytesLess a b=false->Op.bytesLess b a=false->a=b
 |[],[],_,_=>rfl
 |[],_::_,h,_=>by simp [Op.bytesLess]at h
 |_::_,[],_,h=>by simp [Op.bytesLess]at h
 |x::a,y::b,h,k=>by
  simp only [Op.bytesLess,Bool.or_eq_false_iff,Kt,Bool.and_eq_false_imp,xq]at h k;have e:x=y:=by
   have I:=h.1;have M:=k.1;exact UInt8.le_antisymm (UInt8.not_lt.1 M) (UInt8.not_lt.1 I)
  subst e;rw [EP a b (h.2 rfl) (k.2 rfl)]
def xE: ∀a b c:Fy,Op.bytesLess a b=true->Op.bytesLess b c=true->Op.bytesLess a c=true
 |_,[],_,h,_=>by cases ‹List UInt8› <;>simp [Op.bytesLess]at h
 |_,_::_,[],_,h=>by simp [Op.bytesLess]at h
 |[],_::_,_::_,_,_=>rfl
 |x::a,y::b,z::c,h,k=>by
  simp only [Op.bytesLess,xv,nE,iX,xq]at h k ⊢;rcases h with h|⟨I,M⟩
  ·rcases k with k|⟨k1,_⟩
   ·exact .inl (UInt8.lt_trans h k)
   ·subst k1;exact .inl h
  ·subst I;rcases k with k|⟨k1,k2⟩
   ·exact .inl k
   ·exact .inr ⟨k1,xE a b c M k2⟩
def YL(p y:Fy):Int:=if Op.bytesLess p y then -1 else if p=y then 0 else 1
def MB{a b:Fy}(h:Op.bytesLess a b=true):Op.bytesLess b a=false:=by
 cases k:Op.bytesLess b a with
 |false=>rfl
 |true=>have:=xE a b a h k;rw [pu]at this;cases this
def G0:Ij YL where
 rng:=fun x y=>by
  unfold YL;split
  ·exact .inl rfl
  split
  ·exact .inr (.inl rfl)
  ·exact .inr (.inr rfl)
 anti:=fun x y=>by
  unfold YL
  cases h:Op.bytesLess x y with
  |true=>
   have M:=MB h;have:y≠x:=fun e=>by rw [e,pu]at h;cases h
   simp [M,this]
  |false=>
   cases k:Op.bytesLess y x with
   |true=>
    have:x≠y:=fun e=>by rw [e,pu]at k;cases k
    simp [this]
   |false=>have:=EP x y h k;simp [this]
 eq:=fun x y=>by
  unfold YL;constructor
  ·intro h;repeat' split at h
   all_goals simp_all
  ·intro h;subst h;simp [pu]
 trans:=fun x y z=>by
  unfold YL;intro I M
  cases hxy:Op.bytesLess x y with
  |true=>
   cases hyz:Op.bytesLess y z with
   |true=>simp [xE x y z hxy hyz]
   |false=>
    rw [hyz]at M;by_cases e:y=z
    ·subst e;simp [hxy]
    ·simp [e]at M
  |false=>
   rw [hxy]at I;by_cases e:x=y
   ·subst e;exact M
   ·simp [e]at I
def key(v:ac):Int×Int×Int×Fy:=(v.Kind,v.N,v.U,v.S)
def aiT(a b c d:Int):orL [a,b,c,d]=Ra a (Ra b (Ra c d)):=by
 simp only [orL,Ra];by_cases h:d=0
 ·simp [h]
 ·simp [h]
def yJ(x y:ac):val x y=Ra (Tj x.Kind y.Kind) (Ra (Tj x.N y.N) (Ra (Tj x.U y.U) (YL x.S y.S))):=by
 have h:=Ez x y;unfold uq at h;rw [Xb,OY,OX,Xa]at h;simp only [bw]at h;rw [H7]at h;simp only [bw,FZ]at h;rw [<-h,aiT];rfl
def xL:Ij val where
 rng:=fun x y=>by rw [yJ];exact(q5.lex (q5.lex (q5.lex G0))).rng (key x) (key y)
 anti:=fun x y=>by rw [yJ,yJ];exact(q5.lex (q5.lex (q5.lex G0))).anti (key x) (key y)
 eq:=fun x y=>by
  rw [yJ];refine((q5.lex (q5.lex (q5.lex G0))).eq (key x) (key y)).trans ⟨fun h=>?_,fun h=>by rw [h]⟩;cases x;cases y;simp only [key,Prod.mk.injEq]at h;simp [h]
 trans:=fun x y z=>by rw [yJ,yJ,yJ];exact(q5.lex (q5.lex (q5.lex G0))).trans (key x) (key y) (key z)
def fe:Ij eZ where
 rng:=by
  intro x
  induction x with
  |nil=>intro y;cases y<;>simp [eZ]
  |cons a x ih=>
   intro y
   cases y with
   |nil=>simp [eZ]
   |cons b y=>
    simp only [eZ];split
    ·exact xL.rng a b
    ·exact ih y
 anti:=by
  intro x
  induction x with
  |nil=>intro y;cases y<;>simp [eZ]
  |cons a x ih=>
   intro y
   cases y with
   |nil=>simp [eZ]
   |cons b y=>
    simp only [eZ];have h:=xL.anti a b;by_cases I:val a b=0
    ·have M:val b a=0:=by omega
     simp [I,M,ih y]
    ·have M:val b a≠0:=by omega
     simp [I,h]
 eq:=by
  intro x
  induction x with
  |nil=>intro y;cases y<;>simp [eZ]
  |cons a x ih=>
   intro y
   cases y with
   |nil=>simp [eZ]
   |cons b y=>
    simp only [eZ];by_cases I:val a b=0
    ·have e:=(xL.eq a b).1 I;subst e;simp [I,ih y]
    ·have e:a≠b:=fun e=>I ((xL.eq a b).2 e);simp [I,e]
 trans:=by
  intro x
  induction x with
  |nil=>intro y z;cases y<;>cases z<;>simp [eZ]
  |cons a x ih=>
   intro y z
   cases y with
   |nil=>simp [eZ]
   |cons b y=>
    cases z with
    |nil=>simp [eZ]
    |cons c z=>
     simp only [eZ];by_cases I:val a b=0
     ·have e:=(xL.eq a b).1 I;subst e;by_cases M:val a c=0
      ·simp [I,M];exact ih y z
      ·simp [I,M]
     ·by_cases M:val b c=0
      ·have e:=(xL.eq b c).1 M;subst e;simp only [I,M,yD,ne_eq,Is,hM];simp only [Rg,gT];exact fun h _=>h
      ·simp only [I,M,yD,ne_eq,Is,hM];intro h3 h4;have:=xL.lt h3 h4 (by omega);rw [bz (by omega)];omega
section
def ltB(f:α->α->Int)(x y:α):Bool:=decide (f x y<0)
def Ij.self(h:Ij f)(x:α):f x x=0:=(h.eq x x).2 rfl
def yh(f:α->α->Int)(l:List α):Prop:=l.Pairwise (fun a b=>f a b<=0)
def z6(h:Ij f){a b:List α}(ha:yh f a)(H:yh f b)(hp:a.Perm b):a=b:=
 List.Perm.eq_of_pairwise (le:=fun x y=>f x y<=0) (fun x y _ _ I M=>(h.eq x y).1 (by have:=h.anti x y;omega)) ha H hp
def Dh(h:Ij f){c:α×α->Option Int}(hc: ∀x y,c (x,y)=some (f x y)){l:List α}(hl:l.length<=1099511627776):FJ c l:=by
 have hlt: ∀x y,Af c x y=ltB f x y:=fun x y=>by unfold Af ltB;rw [hc]
 refine⟨hl,fun x _ y _=>by rw [hc];rfl,fun x _=>by rw [hlt];unfold ltB;rw [h.self];rfl,fun x _ y _ z _ I M=>?_,fun x _ y _ I M=>?_⟩
 ·rw [hlt]at*;unfold ltB at*;have h1' :=Kr I;have h2' :=Kr M;exact Cl (h.lt (by omega) (by omega) (.inl h1'))
 ·rw [hlt]at*;unfold ltB at*;have h1' :=of_decide_eq_false I;have h2' :=of_decide_eq_false M;have:=h.anti x y;exact(h.eq x y).1 (by omega)
def zr(f:α->α->Int)(l:List α):List α:=EH (ltB f) l
def jb(f:α->α->Int)(l:List α):(zr f l).Perm l:=y8 _ l
def uk(h:Ij f)(l:List α)(hl:l.length<=1099511627776):yh f (zr f l):=by
 have hg:=Dh h (c:=fun p=>some (f p.1 p.2)) (fun _ _=>rfl) hl;have:=Bx hg l (fun y hy=>hy);have e:Af (fun p:α×α=>some (f p.1 p.2))=ltB f:=by funext x y;rfl
 rw [e]at this;refine this.imp fun{a b} hab=>?_;unfold ltB at hab;have I:=of_decide_eq_false hab;have:=h.anti b a;omega
def XX [DecidableEq α](h:Ij f){c:α×α->Option Int}(hc: ∀x y,c (x,y)=some (f x y)){l:List α}(hl:l.length<=1099511627776):Ey c l=some (zr f l):=by
 rw [KR (Dh h hc hl)];have e:Af c=ltB f:=by funext x y;unfold Af ltB;rw [hc]
 rw [e];rfl
def put(f:α->α->Int)(x:α):List α->List α
 |[]=>[x]
 |y::l=>if f x y<0 then x::y::l else y::put f x l
def wU(h:Ij f){a b:List α}(hp:a.Perm b)(ha:a.length<=1099511627776):zr f a=zr f b:=
 z6 h (uk h a ha) (uk h b (by rw [<-hp.length_eq];exact ha)) ((jb f a).trans (hp.trans (jb f b).symm))
def zy(f:α->α->Int)(l:List α):(zr f l).length=l.length:=(jb f l).length_eq
end
def xi{α:Type} [DecidableEq α]:α->List α->List α
 |_,[]=>[]
 |p,x::t=>if x=p then xi x t else x::xi x t
def AQ [DecidableEq α](p:α):xi p []=[]:=by unfold xi;rfl
def AP [DecidableEq α]{p:α}(h:x=p)(t:List α):xi p (x::t)=xi x t:=by
 conv=>lhs;unfold xi
 rw [bz h]
def DN [DecidableEq α]{p:α}(h: ¬x=p)(t:List α):xi p (x::t)=x::xi x t:=by
 conv=>lhs;unfold xi
 rw [aR h]
def sP{α:Type} [DecidableEq α]:List α->List α
 |[]=>[]
 |x::t=>x::xi x t
def Tf{α:Type} [DecidableEq α]: ∀(p:α) (l:List α),(xi p l).length<=l.length
 |_,[]=>kG _
 |p,x::t=>by
  unfold xi;have:=Tf x t;split<;>simp<;>omega
def OT [DecidableEq α](l:List α):(sP l).length<=l.length:=by
 cases l with
 |nil=>exact kG _
 |cons x t=>have:=Tf x t;simp [sP];omega
def Ms{α:Type} [DecidableEq α]: ∀(p:α) (l:List α) (z:α),z∈xi p l->z∈l
 |p,x::t,z,h=>by
  unfold xi at h;split at h
  ·exact ma _ (Ms x t z h)
  ·rcases iW.1 h with rfl|h
   ·exact md ..
   ·exact ma _ (Ms x t z h)
def LP{α:Type} [DecidableEq α]: ∀(p:α) (l:List α) (z:α),z∈l->z=p\/z∈xi p l
 |p,x::t,z,h=>by
  unfold xi;by_cases V:x=p
  ·rw [bz V];rcases iW.1 h with rfl|h
   ·exact .inl V
   ·rcases LP x t z h with h|h
    ·exact .inl (h.trans V)
    ·exact .inr h
  ·rw [aR V];rcases iW.1 h with rfl|h
   ·exact .inr (md ..)
   ·rcases LP x t z h with h|h
    ·exact .inr (by rw [h];exact md ..)
    ·exact .inr (ma _ h)
def yu [DecidableEq α](l:List α)(z:α):z∈sP l↔z∈l:=by
 cases l with
 |nil=>exact Ap
 |cons x t=>
  constructor
  ·intro h;rcases iW.1 h with rfl|h
   ·exact md ..
   ·exact ma _ (Ms x t z h)
  ·intro h;rcases iW.1 h with rfl|h
   ·exact md ..
   ·rcases LP x t z h with rfl|h
    ·exact md ..
    ·exact ma _ h
def C9{α:Type} [DecidableEq α]{f:α->α->Int}(hf:Ij f): ∀(p:α) (l:List α),yh f (p::l)->(p::xi p l).Pairwise (fun a b=>f a b<0)
 |p,[],_=>List.pairwise_singleton _ _
 |p,x::t,h=>by
  have I:=yF.1 h;unfold xi;by_cases V:x=p
  ·rw [bz V];subst V;exact C9 hf x t I.2
  ·rw [aR V];have M:=C9 hf x t I.2;have hlt:f p x<0:=by
    have:=I.1 x (md ..);rcases Int.lt_or_eq_of_le this with h|h
    ·exact h
    ·exact absurd ((hf.eq p x).1 h).symm V
   refine yF.2 ⟨fun z hz=>?_,M⟩;rcases iW.1 hz with rfl|hz
   ·exact hlt
   ·exact hf.lt (by omega) (by have:=(yF.1 M).1 z hz;omega) (.inl hlt)
def BM [DecidableEq α](hf:Ij f){l:List α}(h:yh f l):(sP l).Pairwise (fun a b=>f a b<0):=by
 cases l with
 |nil=>exact List.Pairwise.nil
 |cons x t=>exact C9 hf x t h
abbrev als:=fe
def lim(n:Nat):Int:=if 8000<n then 3 else 0
def acB:List (List cK)->Nat->Nat
 |[],n=>n
 |l::t,n=>acB t (max n l.length)
def uY(l:List cK):Bool:=l.all oE
def aiq(ls:List (List cK)):Int:=if ls.all uY then lim (acB ls 0)else 150
def Bm(ls:List (List cK)):AD ls=some (aiq ls):=by
 have key2: ∀(l:List cK) (nx:Int->Option Int) (e:List cK) (n:Int),vt nx e n l=if uY l then nx (max n (e.length:Int))else some 150:=by
  intro l
  induction l with
  |nil=>intro nx e n;rfl
  |cons r t ih=>
   intro nx e n;have ih' :=ih nx e n;unfold vt;rw [Bk];simp only [bw];rw [ih'];unfold uY;cases h:oE r<;>simp [h]
 have key: ∀(ls:List (List cK)) (n:Nat),o4 ls (n:Int)=some (if ls.all uY then lim (acB ls n)else 150):=by
  intro ls
  induction ls with
  |nil=>
   intro n;show o4 [] (n:Int)=some (lim n);unfold o4 lim;by_cases h:8000<n
   ·rw [bz (by simp;omega),bz h]
   ·rw [aR (by simp;omega),aR h]
  |cons l t ih=>
   intro n;unfold o4;rw [key2,show max (n:Int) (l.length:Int)=((max n l.length:Nat):Int)from by omega,ih];show _=some (if(uY l&&t.all uY)=true then lim (acB t (max n l.length))else 150);cases h:uY l<;>simp
 exact key ls 0
def aaa{n:Nat}(h:n<=8000):lim n=0:=by unfold lim;rw [aR (by omega)]
def Px(l:List cK)(h:l.length<=8000):aiq [l]=if uY l then 0 else 150:=by
 show(if(uY l&&true)=true then lim (max 0 l.length)else 150)=_;rw [aaa (by omega),Cj]
structure Pa(l:List cK):Prop where
 len:l.length<=8000
 row: ∀r∈l,r.length<=1000
abbrev ot(l:List cK):List cK:=zr eZ l
def EA{l:List cK}(h:Pa l):yN l=some (ot l):=by
 unfold yN;rw [EB l (fun r hr=>by have:=h.row r hr;omega) (by have:=h.len;omega)];simp only [bw];rw [XX als (fun x y=>Bl x y) (by have:=h.len;omega)];rfl
def Nq{l:List cK}(h:Pa l):Bo l=some (if uY l then(ot l,0)else([],150)):=by
 unfold Bo;rw [Bm,Px l h.len,EA h];cases uY l<;>rfl
def cB{n:Int}(h: -9223372036854775808<=n)(M:n<=9223372036854775807):i64.wrap n=n:=by rw [Kn];omega
def pL{l m:Nat}(h:l<=m)(M:m<=xs.length):df xs (l:Int) (m:Int)=some ((xs.take m).drop l):=by
 unfold df;rw [bz (by omega)];simp
def Vk(p:List cK)(hp:p.length<=8000)(i:Nat)(y:List cK)(hy:i+y.length=p.length): ∀(k i1:Nat) (x:List cK) (x1:Nat),i1+k=y.length->0<i1->x.length=p.length->x1+1<=i+i1->x.drop (i+i1-1)=p.drop (i+i1-1)->
  dh uI i y k i1 x (x1:Int)=some (x.take x1++xi ((p[i+i1-1]?).getD []) (p.drop (i+i1))):=by
 intro k
 induction k with
 |zero=>
  intro i1 x x1 I h0 V M h3;simp only [dh];have Z':x1<=x.length:=by omega
  rw [pL Z' (kG _)];simp only [bw,DZ,zn];rw [show((0:Int))=((0:Nat):Int)from rfl,pL (nh _) (by simp;omega)];simp only [bw,xu];have hn:p.drop (i+i1)=[]:=D0 (by omega);rw [hn,AQ,vb,D2 (by simp;omega),DX,Nat.min_self]
 |succ k ih=>
  intro i1 x x1 I h0 V M h3;have e1:x[i+i1]? =p[i+i1]? :=by
   have:=congrArg (fun l:List cK=>l[1]?) h3;simp only [A7]at this
   rwa [show i+i1-1+1=i+i1 from by omega]at this
  have e0:x[i+i1-1]? =p[i+i1-1]? :=by
   have:=congrArg (fun l:List cK=>l[0]?) h3;simpa only [A7,vY] using this
  have hlt:i+i1<p.length:=by omega
  have g1:CY x (i:Int) y.length (i1:Int)=some p[i+i1]:=by
   unfold CY;rw [bz (by omega),show(i:Int)+(i1:Int)=((i+i1:Nat):Int)from by omega,cG,e1,qg hlt]
  have g0:CY x (i:Int) y.length (i64.wrap ((i1:Int)-1))=some p[i+i1-1]:=by
   rw [cB (by omega) (by omega)];unfold CY;rw [bz (by omega),show(i:Int)+((i1:Int)-1)=((i+i1-1:Nat):Int)from by omega,cG,e0,qg (by omega)]
  have hd:p.drop (i+i1)=p[i+i1]::p.drop (i+i1+1):=zX hlt;have hp1:(p[i+i1-1]?).getD []=p[i+i1-1]:=by rw [qg (by omega)];rfl
  simp only [dh,g1,g0,bw,Bn];rw [hd,hp1];by_cases B_:p[i+i1]=p[i+i1-1]
  ·rw [aR (by simp [B_])];have h3' :x.drop (i+(i1+1)-1)=p.drop (i+(i1+1)-1):=by
    have:=congrArg (List.drop 1) h3
    rwa [uf,uf,show i+i1-1+1=i+(i1+1)-1 from by omega]at this
   rw [ih (i1+1) x x1 (by omega) (by omega) V (by omega) h3'];rw [AP B_,show i+(i1+1)-1=i+i1 from by omega,qg hlt,show i+(i1+1)=i+i1+1 from by omega];rfl
  ·rw [bz (by simp [B_]),cG,qg (by omega)];simp only [bw,zn];rw [cB (by omega) (by omega),show((x1:Int)+1)=((x1+1:Nat):Int)from by omega];have h3' :(x.set x1 p[i+i1]).drop (i+(i1+1)-1)=p.drop (i+(i1+1)-1):=by
    rw [List.drop_set_of_lt (by omega)];have:=congrArg (List.drop 1) h3
    rwa [uf,uf,show i+i1-1+1=i+(i1+1)-1 from by omega]at this
   rw [ih (i1+1) _ (x1+1) (by omega) (by omega) (by simpa using V) (by omega) h3'];rw [DN B_,show i+(i1+1)-1=i+i1 from by omega,qg hlt,show i+(i1+1)=i+i1+1 from by omega];have J:(x.set x1 p[i+i1]).take (x1+1)=x.take x1++[p[i+i1]]:=by
    rw [TR (by simp;omega),List.take_set_of_le (by omega)];simp
   rw [J];simp
def Vl(p:List cK)(hp:p.length<=8000):iz p uI=some (sP p):=by
 unfold iz;by_cases M:p.length<2
 ·rw [bz (by simp;omega)]
  match p,M with
  |[],_=>rfl
  |[x],_=>rfl
 ·rw [aR (by simp;omega)];have key: ∀(l:List cK) (i:Nat),p.drop i=l->0<i->i<=p.length->sP p=p.take i++xi ((p[i-1]?).getD []) (p.drop i)->dU p uI l i=some (sP p):=by
   intro l
   induction l with
   |nil=>
    intro i I h0 hle h3;have:=Jq.1 I;simp only [dU];rw [h3,I,rO (by omega),AQ,vb]
   |cons x t ih=>
    intro i I h0 hle h3;have hi:i<p.length:=by
     rcases wN i p.length with h|h
     ·exact h
     ·rw [D0 h]at I;cases I
    have V:x=p[i]:=by rw [zX hi]at I;exact(Io I).1.symm
    have J:p.drop (i+1)=t:=by rw [<-uf,I];rfl
    have hp1:(p[i-1]?).getD []=p[i-1]:=by rw [qg (by omega)];rfl
    simp only [dU];rw [cB (by omega) (by omega),show(i:Int)-1=((i-1:Nat):Int)from by omega,cG,qg (by omega)];simp only [bw,Bn];by_cases he:x=p[i-1]
    ·rw [bz (by simp [he])];rw [pL hle (kG _)];simp only [bw,DZ];rw [Vk p hp i (p.drop i) (by simp;omega) _ 1 p i (by simp;omega) (by omega) rfl (by omega) (by simp)];rw [h3,I,hp1,AP he,<-J,V];rw [show i+1-1=i from by omega,qg hi];rfl
    ·rw [aR (by simp [he])];refine ih (i+1) J (by omega) (by omega) ?_;rw [h3,I,hp1,DN he,TR hi,<-J,V,show i+1-1=i from by omega,qg hi];rw [mj];rfl
  have hpc:p=p[0]::p.drop 1:=by
   have:=zX (l:=p) (i:=0) (by omega);simpa using this
  refine key (p.drop 1) 1 rfl (by omega) (by omega) ?_;have e:(p[1-1]?).getD []=p[0]:=by simp [qg (show 0<p.length by omega)]
  rw [e]
  conv=>lhs;rw [hpc]
  have e2:p.take 1=[p[0]]:=by
   conv=>lhs;rw [hpc]
   rfl
  rw [e2];rfl
def Jv{l:List cK}(h:Pa l):xV l=some (if uY l then(sP (ot l),0)else([],150)):=by
 unfold xV;rw [Bm,Px l h.len,EA h];simp only [bw];rw [Vl _ (by rw [zy];exact h.len)];cases uY l<;>rfl
def ae2(n:Int)(h0:0<=n)(h:n<=68719476736):kV n=some []:=by
 unfold kV mp;rw [aR (by simp;omega)];have e:i64.wrap (n-i64.wrap ((0:Int)-0))=n:=by
  rw [cB (n:=(0:Int)-0) (by omega) (by omega),cB (by omega) (by omega)];omega
 rw [e];by_cases hp:0<n
 ·rw [bz (by simpa using hp)];unfold gt0 rQ;rw [bz hp];simp only [bw];rw [bz ⟨h0,h⟩];simp only [bw];rw [show df (List.replicate n.toNat ([]:cK)) 0 0=some []from by unfold df;rw [bz (by simp;omega)];simp];rfl
 ·rw [aR (by simpa using hp)];rfl
def Vz(a b:List cK)(ha:a.length<=8000)(H:b.length<=8000):io [a,b]=some (a++b):=by
 unfold io;simp only [jf];rw [cB (n:=(0:Int)+(a.length:Int)) (by omega) (by omega),aR (by simp),cB (by omega) (by omega),aR (by simp;omega),ae2 _ (by omega) (by omega)];simp only [bw,je];rw [cF (by simp;omega)];simp only [bw,kW];rw [cF (by omega)];rfl
def ER{a b:cK}(ha:oE a=true)(H:oE b=true):ql a b=some (eZ a b):=by rw [CE,ha,H];rfl
def nb(r:Nat):Nat:=if r%2=1 then(r/2)^^^2197175160 else r/2
def nb8(r:Nat):Nat:=nb (nb (nb (nb (nb (nb (nb (nb r)))))))
def afe:List Int:=(List.range 256).map fun i=>(nb8 i:Int)
def sw(r:cK)(c:List Int):Bool:=decide (c.length<=16)&&c.all fun e=>decide (0<=e)&&decide (e<(r.length:Int))
def AZ{f:Int->Option Bool}{g:Int->Bool}(hf: ∀v,f v=some (g v)): ∀(l:List Int) (i:Nat),∃j:Int,jd f l i=some j/\decide (0<=j)=l.any g
 |[],i=>⟨-1,rfl,rfl⟩
 |e::l,i=>by
  unfold jd;rw [hf,bw]
  cases h:g e with
  |true=>exact⟨(i:Int),by simp,by simp [h]⟩
  |false=>
   obtain⟨j,I,M⟩:=AZ hf l (i+1);exact⟨j,by simpa using I,by rw [M];simp [h]⟩
def nN{f:Int->Option Bool}{g:Int->Bool}(hf: ∀v,f v=some (g v))(l:List Int):dL l f=some (l.any g):=by
 unfold dL ph;obtain⟨j,I,M⟩:=AZ hf l 0;rw [I,bw,M]
def Um(r:cK)(c:List Int):JN r c=some (sw r c):=by
 unfold JN sw;rw [nN (f:=Do r) (g:=fun c=>(decide (c<(0:Int)))||(decide ((r.length:Int)<=c))) (fun v=>rfl)];by_cases h:c.length<=16
 ·rw [bz (by rw [nE];omega),bw,bw,Cl h,Al];congr 1
  induction c with
  |nil=>rfl
  |cons e c ih=>
   rw [BW,xr,Bool.not_or,ih (by simp at h;omega)];congr 1;rw [ES];simp only [Hh,Bool.or_eq_false_iff,iX,nE,Kt];omega
 ·rw [aR (by rw [nE];omega),bw,El h,Kl]
def KM(r:cK): ∀(c:List Int) (out:cK),(∀e∈c,0<=e/\e<(r.length:Int))->out.length+c.length<=1000->
  ∃t:cK,t.length=out.length+c.length/\(∀v∈t,v∈out\/v∈r)/\qk r c out=some t/\Ad r c out=some t
 |[],out,_,_=>⟨out,rfl,fun v hv=> .inl hv,rfl,rfl⟩
 |e::c,out,h,hl=>by
  obtain⟨I,M⟩:=h e (md ..);obtain⟨n,rfl⟩:=NW I;have hn:n<r.length:=by omega
  rw [jo]at hl;obtain⟨t,g1,g2,g3,g4⟩:=KM r c (out++[r[n]]) (fun e he=>h e (ma _ he)) (by simp;omega);have hi:cO r (n:Int)=some r[n]:=by rw [cG];exact qg hn
  refine⟨t,by rw [g1];simp;omega,fun v hv=>?_,?_,?_⟩
  ·rcases g2 v hv with g|g
   ·rcases qR.1 g with g|g
    ·exact .inl g
    ·rw [mf.1 g];exact .inr (A5 hn)
   ·exact .inr g
  ·unfold qk;rw [hi,bw,cF (by simp;omega),bw];exact g3
  ·unfold Ad;rw [hi,bw,cF (by simp;omega),bw];exact g4
def aeS(h:xs.length<=68719476736):app [] xs=some xs:=by rw [cF (by simpa using h)];rfl
def jD{i j:Int}(l m:Nat)(hi:i=(l:Int))(hj:j=(m:Int))(h:l<=m)(M:m<=xs.length):df xs i j=some ((xs.take m).drop l):=by
 subst hi hj;exact pL h M
def mE{i:Int}(k:Nat)(hi:i=(k:Int)):cO xs i=xs[k]? :=by subst hi;exact cG _ _
def ss(v:ac):Bool:=j9 v&&(v.Kind !=4)
def yI(v:ac):qi v=some (ss v):=by
 unfold qi ss;rw [rX];cases j9 v<;>simp
def sn(v:ac):CJ v=some (ss v):=by
 unfold CJ ss;rw [Ls];rfl
def R0{v:ac}(h:ss v=true):0<=v.Kind/\v.Kind<=3:=by
 obtain⟨k,n,u,s⟩:=v;unfold ss j9 n8 at h;simp only [iX,yD,ne_eq]at h;obtain⟨I,M⟩:=h;by_cases h0:k=0
 ·simp [h0]
 by_cases k1:k=1
 ·simp [k1]
 by_cases k2:k=2
 ·simp [k2]
 by_cases k3:k=3
 ·simp [k3]
 simp [h0,k1,k2,k3,M]at I
def pk(tag:Int):Option Nat:=if tag=1\/tag=2 then some 0 else if 4<=tag/\tag<=7 then some 1 else if 12<=tag/\tag<=23 then some 2 else none
def PO(tag:Int):Int:=match pk tag with
 |some k=>(k:Int)
 |none=> -1
variable{tag:Int}
def EL(tag:Int):sI tag=some (PO tag):=by
 unfold sI PO pk;by_cases I:tag=1\/tag=2
 ·rw [bz I,bz (by simpa using I)];rfl
 rw [aR I,aR (by simpa using I)];by_cases M:4<=tag/\tag<=7
 ·rw [bz M,bz (by simpa using M)];rfl
 rw [aR M,aR (by simpa using M)];by_cases h3:12<=tag/\tag<=23
 ·rw [bz h3,bz (by simpa using h3)];rfl
 rw [aR h3,aR (by simpa using h3)]
def vx(tag:Int):CI tag=some (PO tag):=by
 unfold CI IJ PO pk;by_cases I:tag=1\/tag=2
 ·rw [bz I];rcases I with rfl|rfl<;>rfl
 rw [aR I];by_cases M:4<=tag/\tag<=7
 ·rw [bz M];have:tag=4\/tag=5\/tag=6\/tag=7:=by omega
  rcases this with rfl|rfl|rfl|rfl<;>rfl
 rw [aR M];by_cases h3:12<=tag/\tag<=23
 ·rw [bz h3,aR (by simp;omega),aR (by simp;omega),aR (by simp;omega),aR (by simp;omega)];rfl
 rw [aR h3];by_cases h4:tag=3\/(8<=tag/\tag<=11)
 ·rw [bz (by simpa using h4)]
 rw [aR (by simpa using h4),bz (by simp;omega)];rfl
def ND(n:av):Bool:=(mS n).getD false
def lW(n:av):mS n=some (ND n):=by
 unfold ND mS;rw [sn];split
 ·rfl
 ·split<;>rfl
def Mo(n:av):zM n=some (ND n):=by
 rw [<-lW];unfold zM mS;rw [sn,yI]
inductive Tr where
 |lf (n:av)
 |un (n:av) (a:Tr)
 |bi (n:av) (a b:Tr)
 deriving Inhabited
def Tr.size:Tr->Nat
 | .lf _=>1
 | .un _ a=>a.size+1
 | .bi _ a b=>a.size+b.size+1
def eY(n:av)(l r:Int):av:={n with L:=l,R:=r}
def Tr.flat:Tr->Nat->List av
 | .lf n,_=>[eY n (-1) (-1)]
 | .un n a,s=>a.flat s++[eY n ((s+a.size:Nat)-1) (-1)]
 | .bi n a b,s=>a.flat s++b.flat (s+a.size)++[eY n ((s+a.size:Nat)-1) ((s+a.size+b.size:Nat)-1)]
def LH(k:Nat)(n:av):Prop:=pk n.Tag=some k/\ND n=true/\n.L= -1/\n.R= -1
def Tr.wf:Tr->Prop
 | .lf n=>LH 0 n
 | .un n a=>LH 1 n/\a.wf
 | .bi n a b=>LH 2 n/\a.wf/\b.wf
def Tr.size_pos(t:Tr):0<t.size:=by cases t<;>simp [Tr.size]
def Tr.flat_len(t:Tr): ∀s,(t.flat s).length=t.size:=by
 induction t with
 |lf n=>intro s;rfl
 |un n a ih=>intro s;simp [Tr.flat,Tr.size,ih]
 |bi n a b iha ihb=>intro s;simp [Tr.flat,Tr.size,iha,ihb];omega
def cW:List Tr->Nat
 |[]=>0
 |t::st=>cW st+t.size
def AM:List Tr->List av
 |[]=>[]
 |t::st=>AM st++t.flat (cW st)
def OK: ∀st:List Tr,(AM st).length=cW st
 |[]=>rfl
 |t::st=>by simp [AM,cW,OK st,t.flat_len]
def Oa: ∀st:List Tr,st.length<=cW st
 |[]=>kG _
 |t::st=>by have:=Oa st;have:=t.size_pos;simp [cW];omega
def push(st:List Tr)(n:av):Option (List Tr):=
 match pk n.Tag,st with
 |some 0,st=>if ND n&&n.L== -1&&n.R== -1 then some (.lf (eY n (-1) (-1))::st)else none
 |some 1,a::st=>if ND n&&n.L==((cW st+a.size:Nat):Int)-1&&n.R== -1 then some (.un (eY n (-1) (-1)) a::st)else none
 |some 2,b::a::st=>if ND n&&n.L==((cW st+a.size:Nat):Int)-1&&n.R==((cW st+a.size+b.size:Nat):Int)-1 then some (.bi (eY n (-1) (-1)) a b::st)else none
 |_,_=>none
def tP:List av->List Tr->Option (List Tr)
 |[],st=>some st
 |n::ns,st=>(push st n).bind (tP ns)
def wfs(st:List Tr):Prop:= ∀t∈st,t.wf
def Dr{l r:Int}(h:n.L=l)(M:n.R=r):eY (eY n (-1) (-1)) l r=n:=by subst h M;rfl
def X8{st st' :List Tr}(h:push st n=some st')(hw:wfs st):AM st' =AM st++[n]/\cW st' =cW st+1/\wfs st' :=by
 unfold push at h;split at h
 ·rename_i k st0 hk;split at h
  ·rename_i hc;simp only [iX,xq]at hc;obtain⟨⟨I,M⟩,h3⟩:=hc;cases h;refine⟨?_,rfl,fun t J=>?_⟩
   ·simp only [AM,Tr.flat];rw [Dr M h3]
   ·rcases iW.1 J with rfl|J
    ·exact⟨hk,I,rfl,rfl⟩
    ·exact hw t J
  ·cases h
 ·rename_i k a st0 hk;split at h
  ·rename_i hc;simp only [iX,xq]at hc;obtain⟨⟨I,M⟩,h3⟩:=hc;cases h;refine⟨?_,by simp [cW,Tr.size];omega,fun t J=>?_⟩
   ·simp only [AM,Tr.flat];rw [Dr M h3,mj]
   ·rcases iW.1 J with rfl|J
    ·exact⟨⟨hk,I,rfl,rfl⟩,hw a (md ..)⟩
    ·exact hw t (ma _ J)
  ·cases h
 ·rename_i k b a st0 hk;split at h
  ·rename_i hc;simp only [iX,xq]at hc;obtain⟨⟨I,M⟩,h3⟩:=hc;cases h;refine⟨?_,by simp [cW,Tr.size];omega,fun t J=>?_⟩
   ·simp only [AM,Tr.flat,cW];rw [Dr M h3];simp only [mj]
   ·rcases iW.1 J with rfl|J
    ·exact⟨⟨hk,I,rfl,rfl⟩,hw a (ma _ (md ..)),hw b (md ..)⟩
    ·exact hw t (ma _ (ma _ J))
  ·cases h
 ·cases h
variable{ns:List av}
def yW: ∀{ns:List av} {st st' :List Tr},tP ns st=some st' ->wfs st->AM st' =AM st++ns/\wfs st'
 |[],st,st',h,hw=>by cases h;simp [hw]
 |n::ns,st,st',h,hw=>by
  unfold tP at h
  cases hp:push st n with
  |none=>rw [hp]at h;cases h
  |some st1=>
   rw [hp]at h;obtain⟨I,_,h3⟩:=X8 hp hw;obtain⟨h4,h5⟩:=yW (ns:=ns) h h3;exact⟨by rw [h4,I];simp,h5⟩
def xY: ∀(ns ms:List av) (st:List Tr),tP (ns++ms) st=(tP ns st).bind (tP ms)
 |[],ms,st=>rfl
 |n::ns,ms,st=>by
  simp only [B7,tP]
  cases push st n with
  |none=>rfl
  |some st1=>exact xY ns ms st1
def Uv(t:Tr): ∀(st:List Tr),t.wf->tP (t.flat (cW st)) st=some (t::st):=by
 induction t with
 |lf n=>
  intro st ⟨I,M,h3,h4⟩;have hn' :eY n (-1) (-1)=n:=by cases n;simp only at h3 h4;subst h3 h4;rfl
  simp only [Tr.flat,tP,push,hn'];rw [I];simp [M,h3,h4,tP,hn']
 |un n a ih=>
  intro st ⟨⟨I,M,h3,h4⟩,ha⟩;have hn' :eY n (-1) (-1)=n:=by cases n;simp only at h3 h4;subst h3 h4;rfl
  simp only [Tr.flat];rw [xY,ih st ha];simp only [bw,tP,push];have e1:(eY n (((cW st+a.size:Nat):Int)-1) (-1)).Tag=n.Tag:=rfl;rw [e1,I];have e2:ND (eY n (((cW st+a.size:Nat):Int)-1) (-1))=true:=M;rw [e2];simp only [eY,Ko,Kj,hM,bw,tP];simp only [eY]at hn';rw [hn']
 |bi n a b iha ihb=>
  intro st ⟨⟨I,M,h3,h4⟩,ha,H⟩;have hn' :eY n (-1) (-1)=n:=by cases n;simp only at h3 h4;subst h3 h4;rfl
  simp only [Tr.flat];rw [xY,xY,iha st ha];simp only [bw];have e0:cW st+a.size=cW (a::st):=rfl;rw [e0,ihb (a::st) H];simp only [bw,tP,push];have e1:(eY n (((cW (a::st):Nat):Int)-1) (((cW (a::st)+b.size:Nat):Int)-1)).Tag=n.Tag:=rfl;rw [e1,I];have e2:ND (eY n (((cW (a::st):Nat):Int)-1) (((cW (a::st)+b.size:Nat):Int)-1))=true:=M;rw [e2];simp only [eY,cW,Ko,Kj,hM,bw,tP];simp only [eY]at hn';rw [hn']
def ll(ns:List av):Option Tr:=match tP ns []with
 |some [t]=>if ns.length<=1000 then some t else none
 |_=>none
def kH{t:Tr}(h:ll ns=some t):t.wf/\ns=t.flat 0/\t.size<=1000:=by
 unfold ll at h;split at h
 ·rename_i t0 hp;split at h
  ·rename_i hl;cases h;obtain⟨I,M⟩:=yW hp (fun t J=>by cases J);simp only [AM,cW,kW]at I;exact⟨M t (md ..),I.symm,by rw [<-t.flat_len 0,I];exact hl⟩
  ·cases h
 ·cases h
def rY{t:Tr}(h:t.wf)(hs:t.size<=1000):ll (t.flat 0)=some t:=by
 unfold ll;have h0:=Uv t [] h;simp only [cW]at h0;rw [h0];simp only [t.flat_len,hs,hM]
def fl:Tr->Nat->List Int
 | .lf _,s=>[(s:Int)]
 | .un _ a,s=>fl a s++[(s:Int)]
 | .bi _ a b,s=>fl a s++fl b (s+a.size)++[(s:Int)]
def SU:List Tr->List Int
 |[]=>[]
 |t::st=>SU st++fl t (cW st)
def pN:List Tr->List Int
 |[]=>[]
 |t::st=>pN st++[((cW st+t.size:Nat):Int)-1]
def xC(t:Tr): ∀s,(fl t s).length=t.size:=by
 induction t with
 |lf n=>intro s;rfl
 |un n a ih=>intro s;simp [fl,Tr.size,ih]
 |bi n a b iha ihb=>intro s;simp [fl,Tr.size,iha,ihb];omega
def zL: ∀st:List Tr,(SU st).length=cW st
 |[]=>rfl
 |t::st=>by simp [SU,cW,zL st,xC]
def eQ: ∀st:List Tr,(pN st).length=st.length
 |[]=>rfl
 |t::st=>by simp [pN,eQ st]
def Wo(t:Tr)(s:Nat):(fl t s)[t.size-1]? =some (s:Int):=by
 cases t with
 |lf n=>rfl
 |un n a=>simp only [fl,Tr.size];rw [we (by rw [xC];omega),xC];simp
 |bi n a b=>simp only [fl,Tr.size];rw [we (by simp [xC]),lj,xC,xC];simp
def Mc(t:Tr)(st:List Tr)(rest:List Int):(SU st++fl t (cW st)++rest)[cW st+t.size-1]? =some (cW st:Int):=by
 have:=t.size_pos;rw [EU (by rw [lj,zL,xC];omega),we (by rw [zL];omega),zL,show cW st+t.size-1-cW st=t.size-1 from by omega];exact Wo t _
def ON: ∀(ns:List av) (st:List Tr),cW st+ns.length<=100000->oM ns (cW st) (SU st) (pN st)=some (match tP ns st with
   |some st' =>(SU st',decide (st'.length=1)&&decide (cW st' <=1000))
   |none=>([],false)):=by
 intro ns
 induction ns with
 |nil=>
  intro st _;simp only [oM,tP,eQ,zL];congr 2;congr 1
  ·rw [ES];simp;omega
  ·rw [ES];simp;omega
 |cons n ns ih=>
  intro st hs;simp only [jo]at hs;have hll:=Oa st;unfold oM;rw [EL];simp only [bw,eQ,Mo];unfold tP;unfold push
  cases hk:pk n.Tag with
  |none=>
   have e:PO n.Tag= -1:=by unfold PO;rw [hk]
   simp [e]
  |some k=>
   have e:PO n.Tag=(k:Int):=by unfold PO;rw [hk]
   have hk3:k=0\/k=1\/k=2:=by
    unfold pk at hk;repeat' split at hk
    all_goals simp at hk
    all_goals omega
   rw [e];rcases hk3 with rfl|rfl|rfl
   ·-- none
    simp only [];have c1:(decide (((0:Nat):Int)<0)||decide ((st.length:Int)<((0:Nat):Int)))=false:=by simp
    simp only [c1,FW,hM,bw]
    cases hc:ND n with
    |false=>simp
    |true=>
     simp only [rM,jM,gT,Al];rw [jD st.length st.length (by rw [cB (by omega) (by omega)];omega) rfl (kG _) (by rw [eQ];exact kG _)];have hd:(List.take st.length (pN st)).drop st.length=[]:=Hi (by simp;omega);simp only [hd,bw,p6];by_cases hL:n.L= -1/\n.R= -1
     ·have H:(n.L== -1&&n.R== -1)=true:=by simp [hL]
      rw [bz H,aR (by simp [hL.1,hL.2])];rw [cF (by simp only [jo,ug,zL];omega)];simp only [bw];rw [jD (i:=0) 0 st.length rfl (by rw [eQ,cB (by omega) (by omega)];omega) (nh _) (by rw [eQ];exact kG _)];rw [rO (by rw [eQ];exact kG _),xu];simp only [bw];rw [cF (by simp only [jo,ug,eQ];omega)];simp only [bw];have M:=ih (.lf (eY n (-1) (-1))::st) (by simp [cW,Tr.size];omega);simp only [cW,Tr.size,SU,fl,pN]at M;rw [show(((cW st+1:Nat):Int)-1)=(cW st:Int)from by omega]at M;exact M
     ·have H:(n.L== -1&&n.R== -1)=false:=by
       rw [zW];intro h;apply hL;simpa using h
      rw [H];rw [bz (by
       simp only [Hh,Kt];intro h;have I:(-1:Int)=n.L:=by injection h
       have M:(-1:Int)=n.R:=by injection h with _ h;injection h
       exact hL ⟨I.symm,M.symm⟩)]
      simp
   ·-- one
    cases st with
    |nil=>simp
    |cons a st=>
     simp only [];have c1:(decide (((1:Nat):Int)<0)||decide (((a::st).length:Int)<((1:Nat):Int)))=false:=by simp;omega
     simp only [c1,FW,hM,bw]
     cases hc:ND n with
     |false=>simp
     |true=>
      simp only [rM,jM,gT,Al];simp only [jo]at hll ⊢;simp only [cW]at hs hll;have hap:=a.size_pos;rw [jD st.length (st.length+1) (by rw [cB (by omega) (by omega)];omega) (by omega) (by omega) (by rw [eQ];exact kG _)];have hd:(List.take (st.length+1) (pN (a::st))).drop st.length=[((cW st+a.size:Nat):Int)-1]:=by
       rw [rO (by rw [eQ];exact kG _)];simp only [pN];rw [Pp (by rw [eQ];exact kG _),Hi (by rw [eQ];exact kG _),kW]
      rw [hd];simp only [bw,p6];rw [mE (cW st+a.size-1) (by omega)];have hf:=Mc a st [];rw [vb]at hf;simp only [SU];rw [hf];simp only [bw];rw [mE 0 rfl];simp only [Nf,bw];have hset:([(-1:Int),-1].set ((0:Nat):Int).toNat (((cW st+a.size:Nat):Int)-1))=[((cW st+a.size:Nat):Int)-1,-1]:=rfl;rw [hset];by_cases hL:n.L=((cW st+a.size:Nat):Int)-1/\n.R= -1
      ·have H:(n.L==((cW st+a.size:Nat):Int)-1&&n.R== -1)=true:=by simp [hL]
       rw [bz H,aR (by rw [hL.1,hL.2];simp)];rw [cF (by simp only [jo,ug,lj,zL,xC];omega)];simp only [bw];rw [jD (i:=0) 0 st.length rfl (by rw [eQ,cB (by simp<;>omega) (by simp<;>omega)];simp) (nh _) (by rw [eQ];simp)];have J:(List.take st.length (pN (a::st))).drop 0=pN st:=by
        simp only [pN,xu];rw [D2 (by rw [eQ];exact kG _),rO (by rw [eQ];exact kG _)]
       rw [J];simp only [bw];rw [cF (by simp only [jo,ug,eQ];omega)];simp only [bw];have M:=ih (.un (eY n (-1) (-1)) a::st) (by simp [cW,Tr.size];omega);simp only [cW,Tr.size,SU,fl,pN]at M;rw [show(((cW st+(a.size+1):Nat):Int)-1)=((cW st+a.size:Nat):Int)from by omega]at M;have hm:min ((cW (a::st):Nat):Int) (cW st:Int)=(cW st:Int):=by simp only [cW];omega
       rw [hm];simp only [mj]at M ⊢;exact M
      ·have H:(n.L==((cW st+a.size:Nat):Int)-1&&n.R== -1)=false:=by
        rw [zW];intro h;apply hL;simpa using h
       rw [H];rw [bz (by
        simp only [Hh,Kt];intro h;have I:((cW st+a.size:Nat):Int)-1=n.L:=by injection h
        have M:(-1:Int)=n.R:=by injection h with _ h;injection h
        exact hL ⟨I.symm,M.symm⟩)]
       simp
   ·-- two
    cases st with
    |nil=>simp
    |cons b st=>
     cases st with
     |nil=>simp
     |cons a st=>
      simp only [];have c1:(decide (((2:Nat):Int)<0)||decide (((b::a::st).length:Int)<((2:Nat):Int)))=false:=by simp;omega
      simp only [c1,FW,hM,bw]
      cases hc:ND n with
      |false=>simp
      |true=>
       simp only [rM,jM,gT,Al];simp only [jo]at hll ⊢;simp only [cW]at hs hll;have hap:=a.size_pos;have hbp:=b.size_pos;rw [jD st.length (st.length+1+1) (by rw [cB (by omega) (by omega)];omega) (by omega) (by omega) (by rw [eQ];exact kG _)];have hd:(List.take (st.length+1+1) (pN (b::a::st))).drop st.length=[((cW st+a.size:Nat):Int)-1,((cW st+a.size+b.size:Nat):Int)-1]:=by
        rw [rO (by rw [eQ];exact kG _)];simp only [pN,cW,mj];rw [Pp (by rw [eQ];exact kG _),Hi (by rw [eQ];exact kG _),kW];rfl
       rw [hd];simp only [bw,p6];simp only [SU,cW];rw [mE (cW st+a.size-1) (by omega)];rw [Mc a st (fl b (cW st+a.size))];simp only [bw];rw [mE 0 rfl];simp only [Nf,bw];have hset:([(-1:Int),-1].set ((0:Nat):Int).toNat (((cW st+a.size:Nat):Int)-1))=[((cW st+a.size:Nat):Int)-1,-1]:=rfl;rw [hset];rw [mE (cW st+a.size+b.size-1) (by omega)];have hf:=Mc b (a::st) [];rw [vb]at hf;simp only [SU,cW]at hf;rw [hf];simp only [bw];rw [mE (0+1) rfl];simp only [VD,Nf,bw];have hset2:([((cW st+a.size:Nat):Int)-1,-1].set ((0+1:Nat):Int).toNat (((cW st+a.size+b.size:Nat):Int)-1))=[((cW st+a.size:Nat):Int)-1,((cW st+a.size+b.size:Nat):Int)-1]:=rfl;rw [hset2];by_cases hL:n.L=((cW st+a.size:Nat):Int)-1/\n.R=((cW st+a.size+b.size:Nat):Int)-1
       ·have H:(n.L==((cW st+a.size:Nat):Int)-1&&n.R==((cW st+a.size+b.size:Nat):Int)-1)=true:=by rw [hL.1,hL.2];simp
        rw [bz H,aR (by rw [hL.1,hL.2];simp)];rw [cF (by simp only [jo,ug,lj,zL,xC];omega)];simp only [bw];rw [jD (i:=0) 0 st.length rfl (by rw [eQ,cB (by simp;omega) (by simp;omega)];simp;omega) (nh _) (by rw [eQ];simp;omega)];have J:(List.take st.length (pN (b::a::st))).drop 0=pN st:=by
         simp only [pN,xu,mj];rw [D2 (by rw [eQ];exact kG _),rO (by rw [eQ];exact kG _)]
        rw [J];simp only [bw];rw [cF (by simp only [jo,ug,eQ];omega)];simp only [bw];have M:=ih (.bi (eY n (-1) (-1)) a b::st) (by simp [cW,Tr.size];omega);simp only [cW,Tr.size,SU,fl,pN]at M;rw [show(((cW st+(a.size+b.size+1):Nat):Int)-1)=((cW st+a.size+b.size:Nat):Int)from by omega,show cW st+(a.size+b.size+1)=cW st+a.size+b.size+1 from by omega]at M;have hm:min (min (((cW st+a.size+b.size:Nat)):Int) (cW st:Int)) ((cW st+a.size:Nat):Int)=(cW st:Int):=by omega
        rw [hm];simp only [mj]at M ⊢;exact M
       ·have H:(n.L==((cW st+a.size:Nat):Int)-1&&n.R==((cW st+a.size+b.size:Nat):Int)-1)=false:=by
         rw [zW];intro h;apply hL;simpa using h
        rw [H];rw [bz (by
         simp only [Hh,Kt];intro h;have I:((cW st+a.size:Nat):Int)-1=n.L:=by injection h
         have M:((cW st+a.size+b.size:Nat):Int)-1=n.R:=by injection h with _ h;injection h
         exact hL ⟨I.symm,M.symm⟩)]
        simp
def oQ{n:Nat}(h:n<=1000000):n<=jl:=by unfold jl;omega
def gX(ns:List av):Bool:=(ll ns).isSome
def IN{st:List Tr}(h:tP ns []=some st):cW st=ns.length:=by
 have:=(yW h (fun t J=>by cases J)).1;rw [<-OK,this];simp [AM]
def pr(e:au)(h:e.j'.length<=100000):qL e=some (if gX e.j' then 0 else 200):=by
 unfold qL xc gX ll;have:=ON e.j' [] (by simpa [cW] using h);simp only [cW,SU,pN]at this;rw [this]
 cases hp:tP e.j' []with
 |none=>rfl
 |some st=>
  have hsz:=IN hp
  match st,hsz with
  |[],_=>rfl
  |[t],hsz=>
   simp only [bw,hsz];by_cases hl:e.j'.length<=1000<;>simp [hl]
  |t::t2::st,_=>simp
def acc(t:Tr):t.wf-> ∀(P R N:List av) (fu:Nat),N=P++t.flat P.length++R->t.size<=fu->N.length<=100000->mR fu ⟨N⟩ (((P.length+t.size:Nat):Int)-1)=some (t.size:Int):=by
 induction t with
 |lf n=>
  intro⟨I,M,h3,h4⟩ P R N fu hN hf hl;have hNl:=congrArg List.length hN;simp only [lj,Tr.flat_len]at hNl;simp only [Tr.size]at hf hNl ⊢;obtain⟨fu,rfl⟩: ∃k,fu=k+1:=⟨fu-1,by omega⟩;unfold mR;have V:N[P.length]? =some (eY n (-1) (-1)):=by
   rw [hN,mj,we (kG _),Ar];rfl
  rw [aR (by simp;omega),mE P.length (by omega),V];have e1:(eY n (-1) (-1)).Tag=n.Tag:=rfl;simp only [bw];rw [e1,vx];have e:PO n.Tag=0:=by unfold PO;rw [I];rfl
  simp only [e,bw,lW];have e2:ND (eY n (-1) (-1))=true:=M;rw [e2];simp [eY]
 |un n a ih=>
  intro⟨⟨I,M,h3,h4⟩,ha⟩ P R N fu hN hf hl;obtain⟨m,hm⟩: ∃m,m=eY n (((P.length+a.size:Nat):Int)-1) (-1):=⟨_,rfl⟩;have hNl:=congrArg List.length hN;simp only [lj,Tr.flat_len]at hNl;simp only [Tr.size]at hf hNl ⊢;simp only [Tr.flat,<-hm]at hN;obtain⟨fu,rfl⟩: ∃k,fu=k+1:=⟨fu-1,by omega⟩;have hpos:=a.size_pos;have hi:=ih ha P ([m]++R) N fu (by rw [hN];simp only [mj]) (by omega) hl;unfold mR;have V:N[P.length+a.size]? =some m:=by
   rw [hN,mj,mj,<-mj P,we (by simp [a.flat_len])];simp [a.flat_len]
  rw [aR (by simp;omega),mE (P.length+a.size) (by omega),V];simp only [bw];have e1:m.Tag=n.Tag:=by rw [hm];rfl
  rw [e1,vx];have e:PO n.Tag=1:=by unfold PO;rw [I];rfl
  simp only [e,bw,lW];have e2:ND m=true:=by rw [hm];exact M
  have eL:m.L=((P.length+a.size:Nat):Int)-1:=by rw [hm];rfl
  have eR:m.R= -1:=by rw [hm];rfl
  rw [cB (n:=((P.length+(a.size+1):Nat):Int)-1-1) (by omega) (by omega),show(((P.length+(a.size+1):Nat):Int)-1-1)=(((P.length+a.size:Nat):Int)-1)from by omega];rw [hi];simp only [bw];rw [cB (n:=(a.size:Int)+1) (by omega) (by omega)];have n1: ¬a.size=0:=by omega
  simp [e2,eL,eR,n1]
 |bi n a b iha ihb=>
  intro⟨⟨I,M,h3,h4⟩,ha,H⟩ P R N fu hN hf hl;obtain⟨m,hm⟩: ∃m,m=eY n (((P.length+a.size:Nat):Int)-1) (((P.length+a.size+b.size:Nat):Int)-1):=⟨_,rfl⟩;have hNl:=congrArg List.length hN;simp only [lj,Tr.flat_len]at hNl;simp only [Tr.size]at hf hNl ⊢;simp only [Tr.flat,<-hm]at hN;obtain⟨fu,rfl⟩: ∃k,fu=k+1:=⟨fu-1,by omega⟩;have hap:=a.size_pos;have hbp:=b.size_pos;have hi1:=iha ha P (b.flat (P.length+a.size)++[m]++R) N fu (by rw [hN];simp only [mj]) (by omega) hl;have hi2:=ihb H (P++a.flat P.length) ([m]++R) N fu (by rw [hN];simp only [mj,lj,a.flat_len]) (by omega) hl;rw [lj,a.flat_len]at hi2;unfold mR;have V:N[P.length+a.size+b.size]? =some m:=by
   rw [hN,mj,mj,<-mj P,we (by simp [a.flat_len,b.flat_len];omega)];have:P.length+a.size+b.size-(P++(a.flat P.length++b.flat (P.length+a.size))).length=0:=by simp [a.flat_len,b.flat_len];omega
   rw [this];rfl
  rw [aR (by simp;omega),mE (P.length+a.size+b.size) (by omega),V];simp only [bw];have e1:m.Tag=n.Tag:=by rw [hm];rfl
  rw [e1,vx];have e:PO n.Tag=2:=by unfold PO;rw [I];rfl
  simp only [e,bw,lW];have e2:ND m=true:=by rw [hm];exact M
  have eL:m.L=((P.length+a.size:Nat):Int)-1:=by rw [hm];rfl
  have eR:m.R=((P.length+a.size+b.size:Nat):Int)-1:=by rw [hm];rfl
  rw [cB (n:=((P.length+(a.size+b.size+1):Nat):Int)-1-1) (by omega) (by omega),show(((P.length+(a.size+b.size+1):Nat):Int)-1-1)=(((P.length+a.size+b.size:Nat):Int)-1)from by omega];rw [hi2];simp only [bw];rw [cB (n:=((P.length+a.size+b.size:Nat):Int)-1-(b.size:Int)) (by omega) (by omega),show((P.length+a.size+b.size:Nat):Int)-1-(b.size:Int)=((P.length+a.size:Nat):Int)-1 from by omega];rw [hi1];simp only [bw];rw [cB (n:=(a.size:Int)+(b.size:Int)) (by omega) (by omega),cB (n:=(a.size:Int)+(b.size:Int)+1) (by omega) (by omega)];have n1: ¬a.size=0:=by omega
  have n2: ¬b.size=0:=by omega
  have e5:(P.length:Int)+(a.size:Int)+(b.size:Int)-1-(b.size:Int)=(P.length:Int)+(a.size:Int)-1:=by omega
  simp [e2,eL,eR,n1,n2,e5]
def acd(N:List av)(hN:N.length<=100000): ∀(fu q:Nat),q<=N.length->q<fu-> ∃k:Nat,mR fu ⟨N⟩ ((q:Int)-1)=some (k:Int)/\(k=0\/ ∃(t:Tr) (P R:List av),t.wf/\t.size=k/\N=P++t.flat P.length++R/\P.length+k=q):=by
 intro fu
 induction fu with
 |zero=>intro q _ h;omega
 |succ fu ih=>
  intro q hq hf;unfold mR;by_cases h0:q=0
  ·subst h0;exact⟨0,by rw [bz (by simp)];rfl,.inl rfl⟩
  rw [aR (by simp;omega),mE (q-1) (by omega)];have hlt:q-1<N.length:=by omega
  rw [qg hlt];obtain⟨n,hn⟩: ∃n,n=N[q-1]:=⟨_,rfl⟩;rw [<-hn];have hd:N=N.take (q-1)++([n]++N.drop q):=by
   have I:=A8 (q-1) N;rw [zX hlt,<-hn,show q-1+1=q from by omega]at I;exact I.symm
  simp only [bw,vx,lW]
  cases hk:pk n.Tag with
  |none=>
   have e:PO n.Tag= -1:=by unfold PO;rw [hk]
   exact⟨0,by simp [e],.inl rfl⟩
  |some k=>
   have e:PO n.Tag=(k:Int):=by unfold PO;rw [hk]
   have hk3:k=0\/k=1\/k=2:=by
    unfold pk at hk;repeat' split at hk
    all_goals simp at hk
    all_goals omega
   cases hc:ND n with
   |false=>exact⟨0,by simp [e,hc],.inl rfl⟩
   |true=>
    rcases hk3 with rfl|rfl|rfl
    ·rw [e];by_cases hL:n.L= -1/\n.R= -1
     ·refine⟨1,by simp [hL],.inr ⟨.lf (eY n (-1) (-1)),N.take (q-1),N.drop q,⟨hk,hc,rfl,rfl⟩,rfl,?_,by simp;omega⟩⟩;simp only [Tr.flat];rw [Dr hL.1 hL.2,mj];exact hd
     ·refine⟨0,?_,.inl rfl⟩;have:(n.L != -1||n.R != -1)=true:=by
       rw [xv,yD,yD];by_cases hl:n.L= -1
       ·exact .inr fun h=>hL ⟨hl,h⟩
       ·exact .inl hl
      simp [this]
    ·rw [e,cB (by omega) (by omega)];have e9:(((q-1:Nat):Int)-1)=(q:Int)-1-1:=by omega
     obtain⟨r2,M,h2'⟩:=ih (q-1) (by omega) (by omega);rw [e9]at M;rw [M];rcases h2' with rfl|⟨t,P,R,hw,hs,hN2,hl⟩
     ·exact⟨0,by simp,.inl rfl⟩
     ·have hp:=t.size_pos;by_cases hL:n.L=(q:Int)-1-1/\n.R= -1
      ·refine⟨r2+1,?_,.inr ⟨.un (eY n (-1) (-1)) t,P,N.drop q,⟨⟨hk,hc,rfl,rfl⟩,hw⟩,by simp only [Tr.size];omega,?_,by omega⟩⟩
       ·simp only [bw];rw [cB (n:=(r2:Int)+1) (by omega) (by omega)];have: ¬(r2=0):=by omega
        simp [hL,this]
       ·simp only [Tr.flat];rw [Dr (by rw [hL.1];omega) hL.2];have J:N.take (q-1)=P++t.flat P.length:=by
         rw [hN2,D2 (by simp [t.flat_len];omega),rO (by simp [t.flat_len];omega)]
        rw [J]at hd;simpa only [mj] using hd
      ·refine⟨0,?_,.inl rfl⟩;have:(n.L !=(q:Int)-1-1||n.R != -1)=true:=by
        rw [xv,yD,yD];by_cases hl:n.L=(q:Int)-1-1
        ·exact .inr fun h=>hL ⟨hl,h⟩
        ·exact .inl hl
       simp [this]
    ·rw [e,cB (n:=(q:Int)-1-1) (by omega) (by omega)];have e9:(((q-1:Nat):Int)-1)=(q:Int)-1-1:=by omega
     obtain⟨r2,M,h2'⟩:=ih (q-1) (by omega) (by omega);rw [e9]at M;rw [M];rcases h2' with rfl|⟨t,P,R,hw,hs,hN2,hl⟩
     ·exact⟨0,by simp,.inl rfl⟩
     ·have hp:=t.size_pos;simp only [bw];rw [cB (n:=(q:Int)-1-1-(r2:Int)) (by omega) (by omega)];have e8:(((q-1-r2:Nat):Int)-1)=(q:Int)-1-1-(r2:Int):=by omega
      have n2: ¬(r2=0):=by omega
      obtain⟨r3,h3,h3'⟩:=ih (q-1-r2) (by omega) (by omega);rw [e8]at h3;rw [h3];rcases h3' with rfl|⟨t3,P3,R3,hw3,hs3,hN3,hl3⟩
      ·exact⟨0,by simp,.inl rfl⟩
      ·have hp3:=t3.size_pos;have n3: ¬(r3=0):=by omega
       by_cases hL:n.R=(q:Int)-1-1/\n.L=(q:Int)-1-1-(r2:Int)
       ·refine⟨r3+r2+1,?_,.inr ⟨.bi (eY n (-1) (-1)) t3 t,P3,N.drop q,⟨⟨hk,hc,rfl,rfl⟩,hw3,hw⟩,by simp only [Tr.size];omega,?_,by omega⟩⟩
        ·simp only [bw];rw [cB (n:=(r3:Int)+(r2:Int)) (by omega) (by omega),cB (n:=(r3:Int)+(r2:Int)+1) (by omega) (by omega)];simp [hL,n2,n3]
        ·simp only [Tr.flat];rw [Dr (by rw [hL.2];omega) (by rw [hL.1];omega)];have J:N.take (q-1)=P++t.flat P.length:=by
          rw [hN2,D2 (by simp [t.flat_len];omega),rO (by simp [t.flat_len];omega)]
         have hP:P=N.take P.length:=by
          conv=>rhs;rw [hN2,mj,D2 (kG _),rO (kG _)]
         have hP3:P=P3++t3.flat P3.length:=by
          rw [hP];have:P.length=P3.length+t3.size:=by omega
          conv=>lhs;rw [this,hN3]
          rw [D2 (by simp [t3.flat_len]),rO (by simp [t3.flat_len])]
         have hPl:P.length=P3.length+t3.size:=by omega
         rw [J,hPl]at hd;rw [hP3]at hd;simpa only [mj] using hd
       ·clear ih hN2 hN3;refine⟨0,?_,.inl rfl⟩;have:(n.R !=(q:Int)-1-1||n.L !=(q:Int)-1-1-(r2:Int))=true:=by
         rw [xv,yD,yD];by_cases hl:n.R=(q:Int)-1-1
         ·exact .inr fun h=>hL ⟨hl,h⟩
         ·exact .inl hl
        have h' :=this;rw [xv,yD,yD]at h';simp [n2,n3];intro I M;exact absurd M (by rcases h' with h' |h';exact absurd I h';exact h')
def Lr(e:au):CH e=some (gX e.j'):=by
 unfold CH gX;by_cases h:1<=e.j'.length/\e.j'.length<=1000
 ·rw [bz (by simp;omega),cB (by omega) (by omega)];unfold Lp;obtain⟨k,I,M⟩:=acd e.j' (by omega) jl e.j'.length (kG _) (Ca (BX _) (oQ (by omega)));have h1' :mR jl e ((e.j'.length:Int)-1)=some (k:Int):=I;rw [h1'];simp only [bw];congr 1;rw [ES];constructor
  ·intro hk;have hk' :k=e.j'.length:=by have:=eq_of_beq hk;omega
   rcases M with rfl|⟨t,P,R,hw,hs,hN,hl⟩
   ·omega
   ·have hP:P=[]:=Ao (by omega);subst hP;have hR:R=[]:=by
     have:=congrArg List.length hN;simp [t.flat_len]at this;exact Ao (by omega)
    subst hR;have hN' :e.j'=t.flat 0:=by simpa using hN
    rw [hN',rY hw (by omega)];rfl
  ·intro hi
   cases J:ll e.j' with
   |none=>rw [J]at hi;cases hi
   |some t=>
    obtain⟨hw,hN,hs⟩:=kH J;have hlen:e.j'.length=t.size:=by rw [hN,t.flat_len]
    have h3:=acc t hw [] [] e.j' jl (by simpa using hN) (oQ (by omega)) (by omega);simp only [ug,u9]at h3;rw [<-hlen]at h3;have h4:some (k:Int)=some (e.j'.length:Int):=I.symm.trans h3;simpa using h4
 ·rw [aR (by simp;omega)];simp only [bw];congr 1
  symm
  rw [zW];intro hi
  cases J:ll e.j' with
  |none=>rw [J]at hi;cases hi
  |some t=>
   obtain⟨hw,hN,hs⟩:=kH J;have hlen:e.j'.length=t.size:=by rw [hN,t.flat_len]
   have:=t.size_pos;omega
def Bp(h:gX ns=true):1<=ns.length/\ns.length<=1000:=by
 unfold gX at h
 cases J:ll ns with
 |none=>rw [J]at h;cases h
 |some t=>
  obtain⟨hw,hN,hs⟩:=kH J;have hlen:ns.length=t.size:=by rw [hN,t.flat_len]
  have:=t.size_pos;omega
def Tg(p:List Int)(hp:p.length<=8000)(i:Nat)(y:List Int)(hy:i+y.length=p.length): ∀(k i1:Nat) (x:List Int) (x1:Nat),i1+k=y.length->0<i1->x.length=p.length->x1+1<=i+i1->x.drop (i+i1-1)=p.drop (i+i1-1)->
  fZ i y k i1 x (x1:Int)=some (x.take x1++xi ((p[i+i1-1]?).getD 0) (p.drop (i+i1))):=by
 intro k
 induction k with
 |zero=>
  intro i1 x x1 I h0 V M h3;simp only [fZ];have Z':x1<=x.length:=by omega
  rw [pL Z' (kG _)];simp only [bw,DZ,zn];rw [show((0:Int))=((0:Nat):Int)from rfl,pL (nh _) (by simp;omega)];simp only [bw,xu];have hn:p.drop (i+i1)=[]:=D0 (by omega);rw [hn,AQ,vb,D2 (by simp;omega),DX,Nat.min_self]
 |succ k ih=>
  intro i1 x x1 I h0 V M h3;have e1:x[i+i1]? =p[i+i1]? :=by
   have:=congrArg (fun l:List Int=>l[1]?) h3;simp only [A7]at this
   rwa [show i+i1-1+1=i+i1 from by omega]at this
  have e0:x[i+i1-1]? =p[i+i1-1]? :=by
   have:=congrArg (fun l:List Int=>l[0]?) h3;simpa only [A7,vY] using this
  have hlt:i+i1<p.length:=by omega
  have g1:CY x (i:Int) y.length (i1:Int)=some p[i+i1]:=by
   unfold CY;rw [bz (by omega),show(i:Int)+(i1:Int)=((i+i1:Nat):Int)from by omega,cG,e1,qg hlt]
  have g0:CY x (i:Int) y.length (i64.wrap ((i1:Int)-1))=some p[i+i1-1]:=by
   rw [cB (by omega) (by omega)];unfold CY;rw [bz (by omega),show(i:Int)+((i1:Int)-1)=((i+i1-1:Nat):Int)from by omega,cG,e0,qg (by omega)]
  have hd:p.drop (i+i1)=p[i+i1]::p.drop (i+i1+1):=zX hlt;have hp1:(p[i+i1-1]?).getD 0=p[i+i1-1]:=by rw [qg (by omega)];rfl
  simp only [fZ,g1,g0,bw];rw [hd,hp1];by_cases B_:p[i+i1]=p[i+i1-1]
  ·rw [aR (by simp [B_])];have h3' :x.drop (i+(i1+1)-1)=p.drop (i+(i1+1)-1):=by
    have:=congrArg (List.drop 1) h3
    rwa [uf,uf,show i+i1-1+1=i+(i1+1)-1 from by omega]at this
   rw [ih (i1+1) x x1 (by omega) (by omega) V (by omega) h3'];rw [AP B_,show i+(i1+1)-1=i+i1 from by omega,qg hlt,show i+(i1+1)=i+i1+1 from by omega];rfl
  ·rw [bz (by simp [B_]),cG,qg (by omega)];simp only [bw,zn];rw [cB (by omega) (by omega),show((x1:Int)+1)=((x1+1:Nat):Int)from by omega];have h3' :(x.set x1 p[i+i1]).drop (i+(i1+1)-1)=p.drop (i+(i1+1)-1):=by
    rw [List.drop_set_of_lt (by omega)];have:=congrArg (List.drop 1) h3
    rwa [uf,uf,show i+i1-1+1=i+(i1+1)-1 from by omega]at this
   rw [ih (i1+1) _ (x1+1) (by omega) (by omega) (by simpa using V) (by omega) h3'];rw [DN B_,show i+(i1+1)-1=i+i1 from by omega,qg hlt,show i+(i1+1)=i+i1+1 from by omega];have J:(x.set x1 p[i+i1]).take (x1+1)=x.take x1++[p[i+i1]]:=by
    rw [TR (by simp;omega),List.take_set_of_le (by omega)];simp
   rw [J];simp
def Jg(p:List Int)(hp:p.length<=8000):nR p=some (sP p):=by
 unfold nR;by_cases M:p.length<2
 ·rw [bz (by simp;omega)]
  match p,M with
  |[],_=>rfl
  |[x],_=>rfl
 ·rw [aR (by simp;omega)];have key: ∀(l:List Int) (i:Nat),p.drop i=l->0<i->i<=p.length->sP p=p.take i++xi ((p[i-1]?).getD 0) (p.drop i)->ir p l i=some (sP p):=by
   intro l
   induction l with
   |nil=>
    intro i I h0 hle h3;have:=Jq.1 I;simp only [ir];rw [h3,I,rO (by omega),AQ,vb]
   |cons x t ih=>
    intro i I h0 hle h3;have hi:i<p.length:=by
     rcases wN i p.length with h|h
     ·exact h
     ·rw [D0 h]at I;cases I
    have V:x=p[i]:=by rw [zX hi]at I;exact(Io I).1.symm
    have J:p.drop (i+1)=t:=by rw [<-uf,I];rfl
    have hp1:(p[i-1]?).getD 0=p[i-1]:=by rw [qg (by omega)];rfl
    simp only [ir];rw [cB (by omega) (by omega),show(i:Int)-1=((i-1:Nat):Int)from by omega,cG,qg (by omega)];simp only [bw];by_cases he:x=p[i-1]
    ·rw [bz (by simp [he])];rw [pL hle (kG _)];simp only [bw,DZ];rw [Tg p hp i (p.drop i) (by simp;omega) _ 1 p i (by simp;omega) (by omega) rfl (by omega) (by simp)];rw [h3,I,hp1,AP he,<-J,V];rw [show i+1-1=i from by omega,qg hi];rfl
    ·rw [aR (by simp [he])];refine ih (i+1) J (by omega) (by omega) ?_;rw [h3,I,hp1,DN he,TR hi,<-J,V,show i+1-1=i from by omega,qg hi];rw [mj];rfl
  have hpc:p=p[0]::p.drop 1:=by
   have:=zX (l:=p) (i:=0) (by omega);simpa using this
  refine key (p.drop 1) 1 rfl (by omega) (by omega) ?_;have e:(p[1-1]?).getD 0=p[0]:=by simp [qg (show 0<p.length by omega)]
  rw [e]
  conv=>lhs;rw [hpc]
  have e2:p.take 1=[p[0]]:=by
   conv=>lhs;rw [hpc]
   rfl
  rw [e2];rfl
def Ox(l:List Int)(z:Int):z∈sortI l↔z∈l:=by unfold sortI;simp
def FL: ∀(ns:List av) (out:List Int),out.length+ns.length<=8000-> ∃cs,mV ns out=some cs/\ ∀c,c∈cs↔c∈out\/ ∃n∈ns,n.Tag=2/\n.X'=c
 |[],out,h=>by
  unfold mV;rw [Ho];rw [bz (by simp at h;omega)];simp only [bw];rw [Jg _ (by rw [Dl];simpa using h)];exact⟨_,rfl,fun c=>by rw [yu,Ox];simp⟩
 |n::ns,out,h=>by
  simp only [jo]at h;unfold mV;by_cases J:n.Tag=2
  ·rw [bz (by simp [J]),cF (by simp;omega)];simp only [bw];obtain⟨cs,I,M⟩:=FL ns (out++[n.X']) (by simp;omega);exact⟨cs,I,fun c=>by rw [M];simp [J,or_assoc,eq_comm]⟩
  ·rw [aR (by simp [J])];obtain⟨cs,I,M⟩:=FL ns out (by omega);exact⟨cs,I,fun c=>by rw [M];simp [J]⟩
def BI(e:au)(h:gX e.j'=true): ∃cs,rm e=some cs/\ ∀c,c∈cs↔ ∃n∈e.j',n.Tag=2/\n.X'=c:=by
 have hl:=Bp h;unfold rm;rw [pr e (by omega),h];obtain⟨cs,I,M⟩:=FL e.j' [] (by simp;omega);exact⟨cs,by simpa using I,fun c=>by rw [M];simp⟩
def kn(tag l r:Int):Int×Bool:=(mw tag l r).getD (0,false)
def ED(tag l r:Int):mw tag l r=some (kn tag l r):=by
 unfold kn mw ly;simp only [bw];repeat' split
 all_goals simp
def k4(k:Int):Prop:=k=0\/k=1\/k=2\/k=3
def afm(tag l r:Int):k4 (kn tag l r).1:=by
 unfold kn mw ly;simp only [bw];repeat' split
 all_goals simp [k4]
def Vy(v':List Int)(n:av)(x:Int)(V:k4 x)(hk:pk n.Tag=some 1):na v' n [x]=some (if(kn n.Tag x 0).2 then((kn n.Tag x 0).1,0)else(0,201)):=by
 obtain⟨tag,L,R,col,v⟩:=n;have J:tag=4\/tag=5\/tag=6\/tag=7:=by
  unfold pk at hk;repeat' split at hk
  all_goals simp at hk
  rename_i h;have h:4<=tag/\tag<=7:=h;omega
 rcases J with rfl|rfl|rfl|rfl<;>rcases V with rfl|rfl|rfl|rfl<;>rfl
def Vx(v':List Int)(n:av)(x y:Int)(V:k4 x)(hy:k4 y)(hk:pk n.Tag=some 2):na v' n [x,y]=some (if(kn n.Tag x y).2 then((kn n.Tag x y).1,0)else(0,201)):=by
 obtain⟨tag,L,R,col,v⟩:=n;have J:tag=12\/tag=13\/tag=14\/tag=15\/tag=16\/tag=17\/tag=18\/tag=19\/tag=20\/tag=21\/tag=22\/tag=23:=by
  unfold pk at hk;repeat' split at hk
  all_goals simp at hk
  rename_i h;have h:12<=tag/\tag<=23:=h;omega
 rcases J with rfl|rfl|rfl|rfl|rfl|rfl|rfl|rfl|rfl|rfl|rfl|rfl<;>rcases V with rfl|rfl|rfl|rfl<;>rcases hy with rfl|rfl|rfl|rfl<;>rfl
def kd(v':List Int):Tr->Option Int
 | .lf n=>if n.Tag=1 then some n.Value.Kind else some ((v'[n.X'.toNat]?).getD 0)
 | .un n a=>(kd v' a).bind fun x=>if(kn n.Tag x 0).2 then some (kn n.Tag x 0).1 else none
 | .bi n a b=>(kd v' a).bind fun x=>(kd v' b).bind fun y=>if(kn n.Tag x y).2 then some (kn n.Tag x y).1 else none
def SL(v':List Int)(n:av)(a:Tr):kd v' (.un n a)=(kd v' a).bind fun x=>if(kn n.Tag x 0).2 then some (kn n.Tag x 0).1 else none:=rfl
def OA(v':List Int)(n:av)(a b:Tr):kd v' (.bi n a b)=(kd v' a).bind fun x=>(kd v' b).bind fun y=>if(kn n.Tag x y).2 then some (kn n.Tag x y).1 else none:=rfl
def uS(m:Nat):Tr->Prop
 | .lf n=>n.Tag=2->n.X'<m
 | .un _ a=>uS m a
 | .bi _ a b=>uS m a/\uS m b
def ZJ(h:pk tag=some 0):tag=1\/tag=2:=by
 unfold pk at h;repeat' split at h
 all_goals simp at h
 assumption
def pk2{k:Nat}(h:pk tag=some k)(J:tag=2):k=0:=by subst J;simp [pk]at h;exact h.symm
def ajq(h:ND n=true)(J:n.Tag=1):ss n.Value=true:=by
 have M:=lW n;rw [h]at M;unfold mS at M;rw [bz (by simp [J]),sn]at M;simp at M;exact M.1
def Mz(h:ND n=true)(J:n.Tag=2):0<=n.X'/\n.X'<16:=by
 have M:=lW n;rw [h]at M;unfold mS at M;rw [aR (by simp [J]),bz (by simp [J])]at M;simp at M;exact⟨M.1.2,M.2⟩
def We{v':List Int}(hk: ∀k∈v',k4 k): ∀(t:Tr),t.wf-> ∀{k},kd v' t=some k->k4 k
 | .lf n,⟨I,M,_,_⟩,k,h=>by
  unfold kd at h;split at h
  ·rename_i J;have:=R0 (ajq M J);cases h;unfold k4;omega
  ·injection h with h;subst h
   cases hc:v'[n.X'.toNat]? with
   |none=>exact .inl rfl
   |some z=>exact hk z (FS hc)
 | .un n a,_,k,h=>by
  unfold kd at h
  cases ha:kd v' a with
  |none=>rw [ha]at h;cases h
  |some x=>
   rw [ha,bw]at h;split at h
   ·cases h;exact afm ..
   ·cases h
 | .bi n a b,_,k,h=>by
  unfold kd at h
  cases ha:kd v' a with
  |none=>rw [ha]at h;cases h
  |some x=>
   cases H:kd v' b with
   |none=>rw [ha,H]at h;cases h
   |some y=>
    rw [ha,H]at h;simp only [bw]at h;split at h
    ·cases h;exact afm ..
    ·cases h
def Uy(stack l:List Int)(h:stack.length+l.length<=100000):ud (stack++l) (l.length:Int)=some (l,stack):=by
 unfold ud dG;have e:i64.wrap (((stack++l).length:Int)-(l.length:Int))=(stack.length:Int):=by
  rw [lj,cB (by omega) (by omega)];omega
 rw [e,jD stack.length (stack++l).length rfl rfl (by simp) (kG _)];simp only [bw,DZ,Pp (kG _),Re,kW];rw [cF (by simp;omega)];simp only [bw,kW];rw [jD (i:=0) 0 stack.length rfl rfl (nh _) (by simp)];simp
def R8(stack:List Int){b:Int}(h:b≠0):p5 b stack=some (0,b):=by
 unfold p5;rw [bz (by simpa using h)]
def mT{k:Nat}(h:pk tag=some k):sI tag=some (k:Int):=by
 rw [EL];unfold PO;rw [h]
def Yd(v':List Int)(hk: ∀k∈v',k4 k)(t:Tr):t.wf->uS v'.length t-> ∀(s:Nat) (rest:List av) (stack:List Int),stack.length+t.size<=50000->
  kP (na v') (t.flat s++rest) 0 stack=match kd v' t with
   |some k=>kP (na v') rest 0 (stack++[k])
   |none=>some (0,201):=by
 induction t with
 |lf n=>
  intro⟨I,M,h3,h4⟩ hc s rest stack hl;simp only [Tr.flat,Tr.size,B7,kW]at hl ⊢;rw [kP];have e1:(eY n (-1) (-1)).Tag=n.Tag:=rfl;rw [e1,mT I];have h0:=Uy stack [] (by simp;omega);simp only [vb,ug]at h0;simp only [bw];rw [h0];simp only [bw];have hv:na v' (eY n (-1) (-1)) []=(kd v' (.lf n)).map (fun k=>(k,(0:Int))):=by
   unfold na p7 kd;simp only [e1];rcases ZJ I with J|J
   ·rw [bz (by simp [J]),bz J];rfl
   ·rw [aR (by simp [J]),bz (by simp [J]),aR (by simp [J])];have H:=Mz M J;have hm:n.X'<v'.length:=hc J;have e2:(eY n (-1) (-1)).X'=n.X':=rfl;rw [e2,mE n.X'.toNat (by omega),qg (by omega)];rfl
  rw [hv];have: ∃k,kd v' (.lf n)=some k:=by unfold kd;split<;>exact⟨_,rfl⟩
  obtain⟨k,hk1⟩:=this;rw [hk1];simp only [Iq,bw];rw [aR (by simp),cF (by simp;omega)];rfl
 |un n a ih=>
  intro⟨⟨I,M,h3,h4⟩,ha⟩ hc s rest stack hl;simp only [Tr.flat,Tr.size,mj]at hl ⊢;rw [SL,ih ha hc s _ stack (by omega)]
  cases V:kd v' a with
  |none=>rfl
  |some x=>
   have hx4:=We hk a ha V;simp only [bw,B7,kW];rw [kP];have e1:(eY n (((s+a.size:Nat):Int)-1) (-1)).Tag=n.Tag:=rfl;rw [e1,mT I];have h0:=Uy stack [x] (by simp;omega);simp only [bw];have e0:(([x]:List Int).length:Int)=((1:Nat):Int):=rfl;rw [<-e0,h0];simp only [bw];rw [Vy v' _ x hx4 (by rw [e1];exact I),e1]
   cases H:(kn n.Tag x 0).2 with
   |true=>
    simp only [hM,bw];rw [aR (by simp),cF (by simp;omega)];rfl
   |false=>
    simp only [jM,gT,bw];rw [bz (by decide),R8 _ (by decide)]
 |bi n a b iha ihb=>
  intro⟨⟨I,M,h3,h4⟩,ha,H⟩ ⟨hca,hcb⟩ s rest stack hl;simp only [Tr.flat,Tr.size,mj]at hl ⊢;rw [OA,iha ha hca s _ stack (by omega)]
  cases V:kd v' a with
  |none=>rfl
  |some x=>
   have hx4:=We hk a ha V;simp only [bw];rw [ihb H hcb (s+a.size) _ (stack++[x]) (by have:=a.size_pos;simp;omega)]
   cases hy:kd v' b with
   |none=>rfl
   |some y=>
    have hy4:=We hk b H hy;have hap:=a.size_pos;simp only [bw,B7,kW];rw [kP];have e1:(eY n (((s+a.size:Nat):Int)-1) (((s+a.size+b.size:Nat):Int)-1)).Tag=n.Tag:=rfl;rw [e1,mT I];have h0:=Uy stack [x,y] (by simp;omega);simp only [bw];have e0:(([x,y]:List Int).length:Int)=((2:Nat):Int):=rfl;have e9:stack++[x]++[y]=stack++[x,y]:=by simp
    rw [<-e0,e9,h0];simp only [bw];rw [Vx v' _ x y hx4 hy4 (by rw [e1];exact I),e1]
    cases H:(kn n.Tag x y).2 with
    |true=>
     simp only [hM,bw];rw [aR (by simp),cF (by simp;omega)];rfl
    |false=>
     simp only [jM,gT,bw];rw [bz (by decide),R8 _ (by decide)]
def Zz(v':List Int)(hk: ∀k∈v',k4 k)(t:Tr):t.wf->uS v'.length t-> ∀(rest:List av) (own:List Int),own.length+t.size<=50000->
  (kd v' t=none/\fd v' (t.flat own.length++rest) own=some (0,201))\/
  (∃k w,kd v' t=some k/\w.length+1=t.size/\fd v' (t.flat own.length++rest) own=fd v' rest (own++w++[k])):=by
 induction t with
 |lf n=>
  intro⟨I,M,h3,h4⟩ hc rest own hl;simp only [Tr.flat,Tr.size,B7,kW]at hl ⊢;refine .inr ?_;have e1:(eY n (-1) (-1)).Tag=n.Tag:=rfl;unfold kd;rcases ZJ I with J|J
  ·refine⟨_,[],bz J,rfl,?_⟩;rw [fd];rw [e1,bz (by simp [J]),cF (by simp;omega)];simp only [bw,vb];rfl
  ·refine⟨_,[],aR (by simp [J]),rfl,?_⟩;have H:=Mz M J;have hm:n.X'<v'.length:=hc J;have e2:(eY n (-1) (-1)).X'=n.X':=rfl;rw [fd];rw [e1,aR (by simp [J]),bz (by simp [J]),e2,mE n.X'.toNat (by omega),qg (by omega)];simp only [bw,vb,Option.getD_some];rw [cF (by simp;omega)];rfl
 |un n a ih=>
  intro⟨⟨I,M,h3,h4⟩,ha⟩ hc rest own hl;have hap:=a.size_pos;simp only [Tr.flat,Tr.size,mj]at hl ⊢;rcases ih ha hc ([eY n (((own.length+a.size:Nat):Int)-1) (-1)]++rest) own (by omega)with⟨V,he⟩|⟨x,w,V,hw,he⟩
  ·exact .inl ⟨by rw [SL,V];rfl,by rw [he]⟩
  ·rw [he];rw [SL,V];simp only [bw,B7,kW];have e1:(eY n (((own.length+a.size:Nat):Int)-1) (-1)).Tag=n.Tag:=rfl;have n1:n.Tag≠1:=fun h=>by rw [h]at I;simp [pk]at I
   have n2:n.Tag≠2:=fun h=>by rw [h]at I;simp [pk]at I
   have hstep:fd v' (eY n (((own.length+a.size:Nat):Int)-1) (-1)::rest) (own++w++[x])=if(kn n.Tag x 0).2 then fd v' rest (own++w++[x]++[(kn n.Tag x 0).1])else some (0,201):=by
    rw [fd];rw [e1,aR (by simpa using n1),aR (by simpa using n2)];have eL:(eY n (((own.length+a.size:Nat):Int)-1) (-1)).L=((own.length+a.size:Nat):Int)-1:=rfl;have eR:(eY n (((own.length+a.size:Nat):Int)-1) (-1)).R= -1:=rfl;rw [eL,eR,mE (own++w).length (by simp;omega),we (kG _),Ar];simp only [Nf,bw];rw [aR (by decide)];unfold wG;rw [e1,ED];simp only [bw]
    cases H:(kn n.Tag x 0).2 with
    |true=>
     simp only [rM,jM,gT,hM];rw [cF (by simp;omega)];rfl
    |false=>rfl
   rw [hstep]
   cases H:(kn n.Tag x 0).2 with
   |true=>exact .inr ⟨(kn n.Tag x 0).1,w++[x],by simp,by simp;omega,by simp⟩
   |false=>exact .inl ⟨by simp,by simp⟩
 |bi n a b iha ihb=>
  intro⟨⟨I,M,h3,h4⟩,ha,H⟩ ⟨hca,hcb⟩ rest own hl;have hap:=a.size_pos;have hbp:=b.size_pos;simp only [Tr.flat,Tr.size,mj]at hl ⊢;obtain⟨m,hm⟩: ∃m,m=eY n (((own.length+a.size:Nat):Int)-1) (((own.length+a.size+b.size:Nat):Int)-1):=⟨_,rfl⟩;rw [<-hm];rcases iha ha hca (b.flat (own.length+a.size)++([m]++rest)) own (by omega)with⟨V,he⟩|⟨x,w,V,hw,he⟩
  ·exact .inl ⟨by rw [OA,V];rfl,by rw [he]⟩
  ·rw [he];have hl2:(own++w++[x]).length=own.length+a.size:=by simp;omega
   rw [<-hl2];rcases ihb H hcb ([m]++rest) (own++w++[x]) (by rw [hl2];omega)with⟨hy,he2⟩|⟨y,w2,hy,hw2,he2⟩
   ·exact .inl ⟨by rw [OA,V,hy];rfl,by rw [he2]⟩
   ·rw [he2];rw [OA,V,hy];simp only [bw,B7,kW];have e1:m.Tag=n.Tag:=by rw [hm];rfl
    have eL:m.L=((own.length+a.size:Nat):Int)-1:=by rw [hm];rfl
    have eR:m.R=((own.length+a.size+b.size:Nat):Int)-1:=by rw [hm];rfl
    have n1:n.Tag≠1:=fun h=>by rw [h]at I;simp [pk]at I
    have n2:n.Tag≠2:=fun h=>by rw [h]at I;simp [pk]at I
    have hstep:fd v' (m::rest) (own++w++[x]++w2++[y])=if(kn n.Tag x y).2 then fd v' rest (own++w++[x]++w2++[y]++[(kn n.Tag x y).1])else some (0,201):=by
     rw [fd];rw [e1,aR (by simpa using n1),aR (by simpa using n2)];rw [eL,eR,mE (own++w).length (by simp;omega)];have g1:(own++w++[x]++w2++[y])[(own++w).length]? =some x:=by
      rw [mj,mj,we (kG _),Ar];rfl
     rw [g1];simp only [bw];rw [bz (by rw [nE];omega),mE (own++w++[x]++w2).length (by simp;omega)];have g2:(own++w++[x]++w2++[y])[(own++w++[x]++w2).length]? =some y:=by
      rw [we (kG _),Ar];rfl
     rw [g2];simp only [bw];unfold wG;rw [e1,ED];simp only [bw]
     cases H:(kn n.Tag x y).2 with
     |true=>
      simp only [rM,jM,gT,hM];rw [cF (by simp;omega)];rfl
     |false=>rfl
    rw [hstep]
    cases H:(kn n.Tag x y).2 with
    |true=>exact .inr ⟨(kn n.Tag x y).1,w++[x]++w2++[y],by simp,by simp;omega,by simp⟩
    |false=>exact .inl ⟨by simp,by simp⟩
def uA(m:Nat)(ns:List av):Bool:=ns.all fun n=> !((n.Tag==2)&&decide ((m:Int)<=n.X'))
def Ti(m:Nat)(n:av)(ns:List av):uA m (n::ns)=(!((n.Tag==2)&&decide ((m:Int)<=n.X'))&&uA m ns):=rfl
def xj(m:Nat)(t:Tr):t.wf-> ∀s,uA m (t.flat s)=true->uS m t:=by
 induction t with
 |lf n=>
  intro _ s h J;simp only [uA,Tr.flat,xr,FV,Cj]at h;have e1:(eY n (-1) (-1)).Tag=n.Tag:=rfl;have e2:(eY n (-1) (-1)).X'=n.X':=rfl;simp [e1,e2,J]at h;exact h
 |un n a ih=>
  intro⟨_,ha⟩ s h;simp only [uA,Tr.flat,As,iX]at h;exact ih ha s h.1
 |bi n a b iha ihb=>
  intro⟨_,ha,H⟩ s h;simp only [uA,Tr.flat,As,iX]at h;exact⟨iha ha s h.1.1,ihb H _ h.1.2⟩
def Ec(v':List Int):Bool:=v'.all fun k=>decide (0<=k)&&decide (k<=3)
def GG(k:Int)(ks:List Int):Ec (k::ks)=((decide (0<=k)&&decide (k<=3))&&Ec ks):=rfl
def DB{v':List Int}(h:Ec v'=true){k:Int}(hk:k∈v'):k4 k:=by
 have:=mN.1 h k hk;simp at this;unfold k4;omega
def eM(e:au)(v':List Int):Int×Int:=
 if gX e.j' then if Ec v' then if uA v'.length e.j' then match (ll e.j').bind (kd v')with
  |some k=>(k,0)
  |none=>(0,201)else(0,2)else(0,2)else(0,200)
def MP(e:au)(v':List Int): ∀cs:List Int,qK e v' cs=if cs.all (fun c=>decide (c<(v'.length:Int)))then tW e (na v')else some (0,2)
 |[]=>by
  unfold qK;cases tW e (na v')<;>rfl
 |c::cs=>by
  unfold qK;rw [MP e v' cs];by_cases h:(v'.length:Int)<=c
  ·rw [bz (by simpa using h),aR (by simp;omega)]
  ·rw [aR (by simpa using h)];have:c<(v'.length:Int):=by omega
   simp [this]
def BG(e:au)(v':List Int)(hl:e.j'.length<=50000):yz e v'=some (eM e v'):=by
 unfold yz eM;rw [pr e (by omega)]
 cases hr:gX e.j' with
 |false=>rfl
 |true=>
  simp only [hM,bw];rw [aR (by decide)];have key: ∀ks:List Int,vK e v' ks=if Ec ks then(rm e).bind (qK e v')else some (0,2):=by
   intro ks
   induction ks with
   |nil=>rfl
   |cons k ks ih=>
    unfold vK;rw [ih];by_cases h:k<0\/3<k
    ·rw [bz (by simpa using h),aR (by simp [Ec];omega)]
    ·rw [aR (by simpa using h)];have I:(decide (0<=k)&&decide (k<=3))=true:=by simp;omega
     rw [GG,I,Al]
  rw [key]
  cases hk:Ec v' with
  |false=>rfl
  |true=>
   simp only [hM];obtain⟨cs,I,M⟩:=BI e hr;rw [I,bw,MP];have hci:cs.all (fun c=>decide (c<(v'.length:Int)))=uA v'.length e.j':=by
    rw [ES];simp only [mN,nE,uA,Hh,Bool.and_eq_false_iff,beq_eq_false_iff_ne,Kt];constructor
    ·intro h n hn;by_cases J:n.Tag=2
     ·exact .inr (by have:=h _ ((M n.X').2 ⟨n,hn,J,rfl⟩);omega)
     ·exact .inl J
    ·intro h c hc;obtain⟨n,hn,J,rfl⟩:=(M c).1 hc;rcases h n hn with h|h
     ·exact absurd J h
     ·omega
   rw [hci]
   cases hc:uA v'.length e.j' with
   |false=>rfl
   |true=>
    simp only [hM]
    cases J:ll e.j' with
    |none=>unfold gX at hr;rw [J]at hr;cases hr
    |some t=>
     obtain⟨hw,hN,hs⟩:=kH J;have hct:=xj v'.length t hw 0 (by rw [<-hN];exact hc);have:=Yd v' (fun k=>DB hk) t hw hct 0 [] [] (by simp;omega);rw [vb,<-hN]at this;unfold tW;rw [this];simp only [bw]
     cases kd v' t with
     |none=>rfl
     |some k=>rfl
def n7(e:au)(v':List Int):yT e v'=some (eM e v'):=by
 unfold yT eM;rw [Lr e]
 cases hr:gX e.j' with
 |false=>rfl
 |true=>
  simp only [hM,bw,rM,jM,gT];have key2: ∀ns:List av,tN e v' ns=if uA v'.length ns then fd v' e.j' []else some (0,2):=by
   intro ns
   induction ns with
   |nil=>rfl
   |cons n ns ih=>
    unfold tN;rw [ih,Ti];cases ((n.Tag==2)&&decide ((v'.length:Int)<=n.X'))<;>simp
  have key: ∀ks:List Int,wF e v' ks=if Ec ks then tN e v' e.j' else some (0,2):=by
   intro ks
   induction ks with
   |nil=>rfl
   |cons k ks ih=>
    unfold wF;rw [ih];by_cases h:k<0\/3<k
    ·rw [bz (by simpa using h),aR (by simp [Ec];omega)]
    ·rw [aR (by simpa using h)];have I:(decide (0<=k)&&decide (k<=3))=true:=by simp;omega
     rw [GG,I,Al]
  rw [key,key2]
  cases hk:Ec v' with
  |false=>rfl
  |true=>
   cases hc:uA v'.length e.j' with
   |false=>rfl
   |true=>
    simp only [hM]
    cases J:ll e.j' with
    |none=>unfold gX at hr;rw [J]at hr;cases hr
    |some t=>
     obtain⟨hw,hN,hs⟩:=kH J;have hct:=xj v'.length t hw 0 (by rw [<-hN];exact hc);have:=Zz v' (fun k=>DB hk) t hw hct [] [] (by simp;omega);rw [vb,ug,<-hN]at this;simp only [bw];rcases this with⟨I,M⟩|⟨k,w,I,M,h3⟩
     ·rw [I,M]
     ·rw [I,h3];unfold fd;have hls:t.size<=1000:=hs;rw [kW,mE w.length (by rw [cB (by simp<;>omega) (by simp<;>omega)];simp),we (kG _),Ar];rfl
def Rb(n:av):Bool:=n.Tag==4||decide (12<=n.Tag)&&decide (n.Tag<=15)
def kp{tl:List α}{y:α}(h:xs.drop i=y::tl):cO xs (i:Int)=some y/\i<xs.length/\xs.drop (i+1)=tl:=by
 have hi:i<xs.length:=by
  rcases wN i xs.length with I|I
  ·exact I
  ·rw [D0 I]at h;cases h
 rw [zX hi]at h;injection h with I M;exact⟨by rw [cG,qg hi,I],hi,M⟩
def xg(h:xs.drop i=[]):xs.length<=i:=Jq.1 h
def AY{f:kU->Option Bool}{g:kU->Bool}(hf: ∀v,f v=some (g v)): ∀(l:List kU) (i:Nat),∃j:Int,fC f l i=some j/\decide (0<=j)=l.any g
 |[],i=>⟨-1,rfl,rfl⟩
 |e::l,i=>by
  unfold fC;rw [hf,bw]
  cases h:g e with
  |true=>exact⟨(i:Int),by simp,by simp [h]⟩
  |false=>
   obtain⟨j,I,M⟩:=AY hf l (i+1);exact⟨j,by simpa using I,by rw [M];simp [h]⟩
def Ek{f:kU->Option Bool}{g:kU->Bool}(hf: ∀v,f v=some (g v))(l:List kU):ik l f=some (l.any g):=by
 unfold ik ln;obtain⟨j,I,M⟩:=AY hf l 0;rw [I,bw,M]
def vT(l:List Int)(h:l.length<=68719476736):dG l=some l:=by
 unfold dG;rw [cF (by simpa using h)];rfl
def abM(n:Int)(h0:0<=n)(h:n<=68719476736):pE n=some []:=by
 unfold pE qt;rw [aR (by simp;omega)];have e:i64.wrap (n-i64.wrap ((0:Int)-0))=n:=by
  rw [cB (n:=(0:Int)-0) (by omega) (by omega),cB (by omega) (by omega)];omega
 rw [e];by_cases hp:0<n
 ·rw [bz (by simpa using hp)];unfold gt0 rQ;rw [bz hp];simp only [bw];rw [bz ⟨h0,h⟩];simp only [bw];rw [show df (List.replicate n.toNat (0:Int)) 0 0=some []from by unfold df;rw [bz (by simp;omega)];simp];rfl
 ·rw [aR (by simpa using hp)];rfl
def TH(a b:List Int)(ha:a.length<=8000)(H:b.length<=8000):mh [a,b]=some (a++b):=by
 unfold mh;simp only [mP];rw [cB (n:=(0:Int)+(a.length:Int)) (by omega) (by omega),aR (by simp),cB (by omega) (by omega),aR (by simp;omega),abM _ (by omega) (by omega)];simp only [bw,mO];rw [cF (by simp;omega)];simp only [bw,kW];rw [cF (by omega)];rfl
structure cI(n:ai):Prop where
 cond:n.J'.j'.length<=30000
 v':n.P'.length<=5000
 keys:n.Q'.length<=5000
 aggs:n.M'.length<=5000
 items:n.I'.length<=5000
 order:n.R'.length<=5000
 args: ∀g∈n.M',g.Arg.j'.length<=30000
 exprs: ∀e∈n.I',e.j'.length<=30000
def Ax(e:au)(v':List Int):Bool:=(eM e v').2==0&&((eM e v').1==1||(eM e v').1==0)
def CR(e:au)(v':List Int)(h:e.j'.length<=30000):w8 e v'=some (Ax e v'):=by
 unfold w8;rw [BG e v' (by omega)];rfl
def m0(e:au)(v':List Int):zB e v'=some (Ax e v'):=by
 unfold zB Ax;rw [n7 e v'];simp only [bw,Bool.or_comm]
def Xu(a:jx)(v':List Int):Int×Bool:=
 if a.Tag=1 then(2,a.Arg.j'.length==0)else if a.Tag=2 then(2,(eM a.Arg v').2==0)else if a.Tag=3 then(2,(eM a.Arg v').2==0&&((eM a.Arg v').1==2||(eM a.Arg v').1==0))else if a.Tag=4\/a.Tag=5 then((eM a.Arg v').1,(eM a.Arg v').2==0)else(0,false)
def Wa(n:Nat):((n:Int)==0)=(n==0):=by rw [ES];simp
def Qb(a:jx)(v':List Int)(h:a.Arg.j'.length<=30000):Dz a v'=some (Xu a v'):=by
 unfold Dz Xu yc;by_cases I:a.Tag=1
 ·rw [bz (by simp [I]),bz I,Wa]
 rw [aR (by simpa using I),aR I,BG _ _ (by omega)];simp only [bw];by_cases M:a.Tag=2
 ·rw [bz (by simp [M]),bz M]
 rw [aR (by simpa using M),aR M];by_cases h3:a.Tag=3
 ·rw [bz (by simp [h3]),bz h3]
 rw [aR (by simpa using h3),aR h3];by_cases h4:a.Tag=4
 ·rw [bz (by simp [h4]),bz (by simp [h4]),bz (.inl h4)]
 rw [aR (by simpa using h4)];by_cases h5:a.Tag=5
 ·rw [bz (by simp [h5]),bz (.inr h5)]
 rw [aR (by simpa using h5),aR (by omega)]
def G4(a:jx)(v':List Int):Int×Bool:=(oY a v').getD (0,false)
def ur(a:jx)(v':List Int):oY a v'=some (G4 a v'):=by
 unfold G4 oY;rw [n7];simp only [bw];repeat' split
 all_goals rfl
def Kh(a:jx)(v':List Int):(Xu a v').2=(G4 a v').2/\((Xu a v').2=true->(Xu a v').1=(G4 a v').1):=by
 unfold G4 oY Xu;rw [n7];simp only [bw];by_cases I:a.Tag=1
 ·simp [I,Wa]
 by_cases M:a.Tag=2
 ·by_cases he:(eM a.Arg v').2=0<;>simp [M,he]
 by_cases h3:a.Tag=3
 ·by_cases he:(eM a.Arg v').2=0
  ·by_cases h0:(eM a.Arg v').1=0
   ·simp [h3,he,h0]
   ·by_cases h02:(eM a.Arg v').1=2<;>simp [h3,he,h0,h02]
  ·simp [h3,he]
 by_cases h4:a.Tag=4
 ·by_cases he:(eM a.Arg v').2=0<;>simp [h4,he]
 by_cases h5:a.Tag=5
 ·by_cases he:(eM a.Arg v').2=0<;>simp [h5,he]
 have:a.Tag<1\/5<a.Tag:=by omega
 simp [I,M,h3,h4,h5,this]
def G7(p:Option (List Int×Bool))(q:Option (List Int×Bool))(last:Bool):Prop:=
 ∃k o k',p=some (k,o&&last)/\q=some (k',o)/\(o=true->k=k')
def Od(c:aV)(n:ai)(a b:List Int)(hn:cI n)(hop:n.Op=1):G7 (jr c n) (bB n a b) true:=by
 have h:=hn.v';have key: ∀(tl:List Int) (i:Nat) (fu:Nat) (ok:Bool),n.P'.drop i=tl->tl.length<fu->dY n fu ok (i:Int)=some (n.P',((((ok&&tl.all fun k=>decide (1<=k)&&decide (k<=3))&&(decide ((0:Int)<=n.Table)))&&(decide (n.Table<=(3:Int))))&&(decide ((1:Int)<=(n.P'.length:Int))))&&(decide ((n.P'.length:Int)<=(4:Int)))):=by
  intro tl
  induction tl with
  |nil=>
   intro i fu ok hd hf;obtain⟨fu,rfl⟩: ∃k,fu=k+1:=⟨fu-1,by omega⟩;have:=xg hd;rw [dY,aR (by simp;omega)];simp
  |cons x tl ih=>
   intro i fu ok hd hf;simp only [jo]at hf;obtain⟨fu,rfl⟩: ∃k,fu=k+1:=⟨fu-1,by omega⟩;obtain⟨I,M,h3⟩:=kp hd;rw [dY,bz (by simp;omega),I,cB (by omega) (by omega)];simp only [bw];have e:((i:Int)+1)=((i+1:Nat):Int):=by omega
   rw [e];have e2:((if ok=true then some (decide ((1:Int)<=x))else some false).bind fun t=>(if t=true then some (decide (x<=(3:Int)))else some false).bind fun t1=>dY n fu t1 ((i+1:Nat):Int))=dY n fu (ok&&(decide (1<=x)&&decide (x<=3))) ((i+1:Nat):Int):=by
    cases ok<;>by_cases V:(1:Int)<=x<;>simp [V]
   rw [e2,ih (i+1) fu _ h3 (by omega)];simp only [xr,Ip]
 have hr:bB n a b=dY n jl true (0:Int):=by unfold bB;rw [bz (by simp [hop])]
 rw [hr,show((0:Int))=((0:Nat):Int)from rfl,key n.P' 0 jl true rfl (Ca (BX _) (oQ (by omega)))];unfold jr;have hc:dL n.P' m6=some (n.P'.any fun k=> !(((k==(1:Int))||(k==(2:Int)))||(k==(3:Int)))):=nN (fun v=>rfl) _;rw [hc];simp only [bw];have e3:(!(n.P'.any fun k=> !(((k==(1:Int))||(k==(2:Int)))||(k==(3:Int)))))=n.P'.all fun k=>decide (1<=k)&&decide (k<=3):=by
  rw [List.not_any_eq_all_not];congr 1;funext k;rw [Bool.not_not,ES];simp;omega
 rw [e3];refine⟨n.P',_,n.P',?_,rfl,fun _=>rfl⟩;cases h4:(n.P'.all fun k=>decide (1<=k)&&decide (k<=3))<;>by_cases t1:0<=n.Table<;>by_cases t2:n.Table<4<;>by_cases l1:(1:Int)<=(n.P'.length:Int)<;>by_cases l2:(n.P'.length:Int)<=4<;>simp [t1,t2,l1,l2]<;>omega
def Ys(c:aV)(n:ai)(a b:List Int)(hn:cI n)(hop:n.Op=2)(ha:cO c.v' n.A=some a)(H:cO c.v' n.B=some b)(hal:a.length<=16)(hbl:b.length<=16):G7 (kC c n) (bB n a b) true:=by
 unfold kC bB;rw [ha,H,aR (by simp [hop]),bz (by simp [hop])];simp only [bw];rw [TH _ _ (by omega) (by omega),cF (by simp;omega)];simp only [bw,kW];rw [cF (by omega)];simp only [bw];rw [CR _ _ hn.cond,m0];exact⟨_,Ax n.J' (a++b),_,by simp,rfl,fun _=>rfl⟩
def S4(c:aV)(n:ai)(a b:List Int)(hn:cI n)(hop:n.Op=3)(ha:cO c.v' n.A=some a):G7 (js c n) (bB n a b) true:=by
 unfold js bB;rw [ha,aR (by simp [hop]),aR (by simp [hop]),bz (by simp [hop])];simp only [bw];rw [CR _ _ hn.cond,m0];exact⟨_,Ax n.J' a,_,by simp,rfl,fun _=>rfl⟩
def NC(c:aV)(n:ai)(a b:List Int)(hop:n.Op=6)(ha:cO c.v' n.A=some a):G7 (iC c n) (bB n a b) true:=by
 unfold iC bB;rw [ha,aR (by simp [hop]),aR (by simp [hop]),aR (by simp [hop]),aR (by simp [hop]),aR (by simp [hop]),bz (by simp [hop])];exact⟨_,true,_,rfl,rfl,fun _=>rfl⟩
def PN(c:aV)(n:ai)(a b:List Int)(hn:cI n)(hop:n.Op=5)(ha:cO c.v' n.A=some a):G7 (i6 c n) (bB n a b) true:=by
 have h:=hn.items;have hr:bB n a b=dw n a jl [] true (0:Int):=by unfold bB;rw [aR (by simp [hop]),aR (by simp [hop]),aR (by simp [hop]),aR (by simp [hop]),bz (by simp [hop])]
 have key: ∀(tl:List au) (i:Nat) (fu:Nat) (out:List Int) (ok:Bool),n.I'.drop i=tl->i+tl.length=n.I'.length->tl.length<fu->out.length=i->dw n a fu out ok (i:Int)=some (out++tl.map (fun e=>(eM e a).1),((ok&&tl.all fun e=>(eM e a).2==0)&&(decide ((1:Int)<=(n.I'.length:Int))))&&(decide ((n.I'.length:Int)<=(16:Int)))):=by
  intro tl
  induction tl with
  |nil=>
   intro i fu out ok hd hi hf ho;obtain⟨fu,rfl⟩: ∃k,fu=k+1:=⟨fu-1,by omega⟩;simp only [ug,vY]at hi;rw [dw,aR (by simp;omega)];simp [ho,hi]
  |cons x tl ih=>
   intro i fu out ok hd hi hf ho;simp only [jo]at hf hi;obtain⟨fu,rfl⟩: ∃k,fu=k+1:=⟨fu-1,by omega⟩;obtain⟨I,M,h3⟩:=kp hd;rw [dw,bz (by simp;omega),I];simp only [bw];rw [n7];simp only [bw];rw [cF (by simp;omega),cB (by omega) (by omega)];simp only [bw];have e:((i:Int)+1)=((i+1:Nat):Int):=by omega
   rw [e,ih (i+1) fu _ _ h3 (by omega) (by omega) (by simp [ho])];simp [Ip]
 rw [hr,show((0:Int))=((0:Nat):Int)from rfl,key n.I' 0 jl [] true rfl (by simp) (Ca (BX _) (oQ (by omega))) rfl];unfold i6;have key2: ∀(tl:List au) (out:List Int) (ok:Bool),(∀e∈tl,e.j'.length<=30000)->out.length+tl.length<=5000->iT c n tl out ok=some (out++tl.map (fun e=>(eM e a).1),ok&&tl.all fun e=>(eM e a).2==0):=by
  intro tl
  induction tl with
  |nil=>intro out ok _ _;simp [iT]
  |cons x tl ih=>
   intro out ok he hl;simp only [jo]at hl;rw [iT,ha];simp only [bw];rw [BG _ _ (by have:=he x (md ..);omega)];simp only [bw];rw [cF (by simp;omega)];simp only [bw];rw [ih _ _ (fun e h=>he e (ma _ h)) (by simp;omega)];simp [Ip]
 rw [key2 n.I' [] _ hn.exprs (by simp;omega)];refine⟨_,_,_,?_,rfl,fun _=>rfl⟩;simp only [Cj,Al];congr 2;cases (n.I'.all fun e=>(eM e a).2==0)<;>simp
def kAt(a:List Int)(e:Int):Int:=(a[e.toNat]?).getD 0
def PS(a:List Int)(e:Int):Bool:=decide (e<0)||decide ((a.length:Int)<=e)
def aal{a:List Int}{e:Int}(h:PS a e=false):cO a e=some (kAt a e):=by
 simp [PS]at h;rw [mE e.toNat (by omega),qg (by omega)];unfold kAt;rw [qg (by omega)];rfl
def UQ(c:aV)(n:ai)(a b:List Int)(hn:cI n)(hop:n.Op=4)(ha:cO c.v' n.A=some a):G7 (jW c n) (bB n a b) true:=by
 have hK:=hn.keys;have hA:=hn.aggs;have hr:bB n a b=eC n a jl [] (0:Int):=by unfold bB;rw [aR (by simp [hop]),aR (by simp [hop]),aR (by simp [hop]),bz (by simp [hop])]
 have key3: ∀(tl:List jx) (i:Nat) (fu:Nat) (out:List Int) (ok:Bool),n.M'.drop i=tl->i+tl.length=n.M'.length->tl.length<fu->out.length<=5000+i->ez n a fu out ok (i:Int)=some (out++tl.map (fun e=>(G4 e a).1),(((ok&&tl.all fun e=>(G4 e a).2)&&(decide ((n.Q'.length:Int)<=(3:Int))))&&(decide ((n.M'.length:Int)<=(12:Int))))&&(decide ((0:Int)<((out.length+tl.length:Nat):Int)))):=by
  intro tl
  induction tl with
  |nil=>
   intro i fu out ok hd hi hf ho;obtain⟨fu,rfl⟩: ∃k,fu=k+1:=⟨fu-1,by omega⟩;simp only [ug,vY]at hi;rw [ez,aR (by simp;omega)];simp
  |cons x tl ih=>
   intro i fu out ok hd hi hf ho;simp only [jo]at hf hi;obtain⟨fu,rfl⟩: ∃k,fu=k+1:=⟨fu-1,by omega⟩;obtain⟨I,M,h3⟩:=kp hd;rw [ez,bz (by simp;omega),I];simp only [bw];rw [ur];simp only [bw];rw [cF (by simp;omega),cB (by omega) (by omega)];simp only [bw];have e:((i:Int)+1)=((i+1:Nat):Int):=by omega
   rw [e,ih (i+1) fu _ _ h3 (by omega) (by omega) (by simp;omega)];simp only [va,xr,Ip,mj,lj,jo,ug,B7,kW];rw [show out.length+(0+1)+tl.length=out.length+(tl.length+1)from by omega]
 have key2: ∀(tl:List Int) (i:Nat) (fu:Nat) (out:List Int),n.Q'.drop i=tl->i+tl.length=n.Q'.length->tl.length<fu->out.length=i->eC n a fu out (i:Int)=if tl.any (PS a)then some ([],false)else ez n a jl (out++tl.map (kAt a)) true 0:=by
  intro tl
  induction tl with
  |nil=>
   intro i fu out hd hi hf ho;obtain⟨fu,rfl⟩: ∃k,fu=k+1:=⟨fu-1,by omega⟩;simp only [ug,vY]at hi;rw [eC,aR (by simp;omega)];simp
  |cons x tl ih=>
   intro i fu out hd hi hf ho;simp only [jo]at hf hi;obtain⟨fu,rfl⟩: ∃k,fu=k+1:=⟨fu-1,by omega⟩;obtain⟨I,M,h3⟩:=kp hd;rw [eC,bz (by simp;omega),I];simp only [bw]
   cases V:PS a x with
   |true=>
    have hx' :(decide (x<0)||decide ((a.length:Int)<=x))=true:=V;rw [bz hx',bz (by simp [V])]
   |false=>
    have hx' : ¬(decide (x<0)||decide ((a.length:Int)<=x))=true:=by rw [show(decide (x<0)||decide ((a.length:Int)<=x))=PS a x from rfl,V];decide
    rw [aR hx',aal V];simp only [bw];rw [cF (by simp;omega),cB (by omega) (by omega)];simp only [bw];have e:((i:Int)+1)=((i+1:Nat):Int):=by omega
    rw [e,ih (i+1) fu _ h3 (by omega) (by omega) (by simp [ho])];simp [V]
 rw [hr,show((0:Int))=((0:Nat):Int)from rfl,key2 n.Q' 0 jl [] rfl (by simp) (Ca (BX _) (oQ (by omega))) rfl];rw [show((0:Int))=((0:Nat):Int)from rfl,key3 n.M' 0 jl _ true rfl (by simp) (Ca (BX _) (oQ (by omega))) (by simp;omega)];unfold jW;rw [ha,cB (by omega) (by omega)];simp only [bw];have hp:yb n.Q' a=some (!(n.Q'.any (PS a))):=by
  unfold yb;rw [nN (f:=vB a) (g:=PS a) (fun v=>rfl)];rfl
 rw [hp];simp only [bw,kW,Am];have kl: ∀(tl:List jx) (out:List Int) (ok:Bool),(∀e∈tl,e.Arg.j'.length<=30000)->out.length+tl.length<=10000->iB a tl out ok=some (out++tl.map (fun e=>(Xu e a).1),ok&&tl.all fun e=>(Xu e a).2):=by
  intro tl
  induction tl with
  |nil=>intro out ok _ _;simp [iB]
  |cons x tl ih=>
   intro out ok he hl;simp only [jo]at hl;rw [iB,Qb _ _ (he x (md ..))];simp only [bw];rw [cF (by simp;omega)];simp only [bw];rw [ih _ _ (fun e h=>he e (ma _ h)) (by simp;omega)];simp [Ip]
 have kl1: ∀(t:Bool) (tl out:List Int),tl.any (PS a)=false->out.length+tl.length<=5000->jI n a t tl out=iB a n.M' (out++tl.map (kAt a)) t:=by
  intro t tl
  induction tl with
  |nil=>intro out _ _;simp [jI]
  |cons x tl ih=>
   intro out ho hl;simp only [jo]at hl;simp only [BW,Bool.or_eq_false_iff]at ho;rw [jI,aal ho.1];simp only [bw];rw [cF (by simp;omega)];simp only [bw];rw [ih _ ho.2 (by simp;omega)];simp
 have hall:(n.M'.all fun e=>(Xu e a).2)=n.M'.all fun e=>(G4 e a).2:=by
  congr 1;funext e;exact(Kh e a).1
 have hmap:(n.M'.all fun e=>(Xu e a).2)=true->n.M'.map (fun e=>(Xu e a).1)=n.M'.map fun e=>(G4 e a).1:=by
  intro h;exact ET fun e he=>(Kh e a).2 (mN.1 h e he)
 cases hany:n.Q'.any (PS a)with
 |true=>exact⟨[],false,[],by simp,by simp,fun _=>rfl⟩
 |false=>
  by_cases H:((n.Q'.length<=3/\n.M'.length<=12)/\0<n.Q'.length+n.M'.length)
  ·have hb' :(((decide ((n.Q'.length:Int)<=(3:Int)))&&(decide ((n.M'.length:Int)<=(12:Int))))&&(decide ((0:Int)<(n.Q'.length:Int)+(n.M'.length:Int))))=true:=by simp;omega
   simp only [hb',hM,FW,rM,jM,gT,bw];rw [kl1 true n.Q' [] hany (by simp;omega),kl n.M' _ true hn.args (by simp;omega)];refine⟨n.Q'.map (kAt a)++n.M'.map (fun e=>(Xu e a).1),n.M'.all fun e=>(G4 e a).2,n.Q'.map (kAt a)++n.M'.map (fun e=>(G4 e a).1),by simp [hall],?_,fun h=>?_⟩
   ·have I:(decide ((n.Q'.length:Int)<=(3:Int)))=true:=by simp;omega
    have M:(decide ((n.M'.length:Int)<=(12:Int)))=true:=by simp;omega
    have h3:(decide ((0:Int)<((n.Q'.length+n.M'.length:Nat):Int)))=true:=by simp;omega
    simp only [I,M,h3,Cj,Al]
   ·rw [hmap (by rw [hall];exact h)]
  ·have hb' :(((decide ((n.Q'.length:Int)<=(3:Int)))&&(decide ((n.M'.length:Int)<=(12:Int))))&&(decide ((0:Int)<(n.Q'.length:Int)+(n.M'.length:Int))))=false:=by rw [zW];simp;omega
   simp only [hb',hM,FW,jM,gT,bw];refine⟨[],false,n.Q'.map (kAt a)++n.M'.map (fun e=>(G4 e a).1),by simp,?_,by simp⟩;have:((((true&&n.M'.all fun e=>(G4 e a).2)&&(decide ((n.Q'.length:Int)<=(3:Int))))&&(decide ((n.M'.length:Int)<=(12:Int))))&&(decide ((0:Int)<((n.Q'.length+n.M'.length:Nat):Int))))=false:=by rw [zW];simp;omega
   rw [this]
def Zj(x y:Int):Int:=if x=0 then y else x
def Rx(p:Int×Int):Bool:=(p.2==Zj p.1 p.2)||p.2==0
def T4(c:aV)(n:ai)(a b:List Int)(hop:n.Op=7)(ha:cO c.v' n.A=some a)(H:cO c.v' n.B=some b)(hal:a.length<=16):G7 (jU c n) (bB n a b) true:=by
 unfold jU bB;rw [ha,H,aR (by simp [hop]),aR (by simp [hop]),aR (by simp [hop]),aR (by simp [hop]),aR (by simp [hop]),aR (by simp [hop]),bz (by simp [hop])];simp only [bw];by_cases hl:a.length=b.length
 ·rw [aR (by simp;omega),aR (by simp;omega),vT _ (by omega)];simp only [bw];have kc: ∀(tl pre suf:List Int) (ok:Bool),suf.length=tl.length->ft tl pre.length (pre++suf) ok=some (pre++List.zipWith Zj suf tl,ok&&(suf.zip tl).all Rx):=by
   intro tl
   induction tl with
   |nil=>
    intro pre suf ok h;have:suf=[]:=Ao h;subst this;simp [ft]
   |cons y tl ih=>
    intro pre suf ok h
    cases suf with
    |nil=>simp at h
    |cons x suf=>
     simp only [jo,Nat.add_right_cancel_iff]at h;rw [ft,cG,we (kG _),Ar];simp only [Nf,bw];have step: ∀(z:Int),lz (ft tl) pre.length y ok (pre++z::suf)=some (pre++z::List.zipWith Zj suf tl,ok&&((z==y||y==0)&&(suf.zip tl).all Rx)):=by
      intro z;unfold lz;rw [cG,we (kG _),Ar];simp only [Nf,bw];have e1:pre++z::suf=(pre++[z])++suf:=by simp
      have e2:pre.length+1=(pre++[z]).length:=by simp
      cases ok with
      |true=>
       simp only [hM,bw,Al];rw [e1,e2,ih (pre++[z]) suf _ h];simp
      |false=>
       simp only [jM,gT,bw,Kl];rw [e1,e2,ih (pre++[z]) suf _ h];simp
     by_cases V:x=0
     ·subst V;rw [bz (by simp)];have e3:(pre++(0:Int)::suf).set ((pre.length:Int)).toNat y=pre++y::suf:=by
       rw [zn,List.set_append_right _ _ (kG _),Ar];rfl
      rw [e3];refine(step y).trans ?_;simp [Rx,Zj]
     ·rw [aR (by simpa using V),step x];have:Zj x y=x:=by unfold Zj;rw [aR V]
      simp only [List.zipWith_cons_cons,List.zip_cons_cons,xr,Rx,this];have e4:(y==x)=(x==y):=by rw [ES,xq,xq];exact eq_comm
      rw [e4]
  have kr: ∀(tl tb:List Int) (i:Nat) (out:List Int) (ok:Bool),b.drop i=tb->tl.length=tb.length->out.length+tl.length<=1000->fg b tl i out ok=some (out++List.zipWith Zj tl tb,ok&&(tl.zip tb).all Rx):=by
   intro tl
   induction tl with
   |nil=>
    intro tb i out ok hd h _;have:tb=[]:=Ao h.symm;subst this;simp [fg]
   |cons x tl ih=>
    intro tb i out ok hd h hm
    cases tb with
    |nil=>simp at h
    |cons y tb=>
     simp only [jo,Nat.add_right_cancel_iff]at h hm;obtain⟨I,M,h3⟩:=kp hd;rw [fg,I];simp only [bw];have step: ∀z:Int,lw b (fg b tl) i out ok z=some (out++z::List.zipWith Zj tl tb,ok&&((y==z||y==0)&&(tl.zip tb).all Rx)):=by
      intro z;unfold lw;rw [cF (by simp;omega),I];simp only [bw]
      cases ok with
      |true=>
       simp only [hM,bw,Al]
       cases hyz:y==z with
       |true=>
        simp only [rM,jM,gT,bw];rw [ih tb (i+1) _ _ h3 h (by simp;omega)];simp
       |false=>
        simp only [FW,hM,bw];rw [ih tb (i+1) _ _ h3 h (by simp;omega)];simp
      |false=>
       simp only [jM,gT,bw,Kl];rw [ih tb (i+1) _ _ h3 h (by simp;omega)];simp
     by_cases V:x=0
     ·subst V;rw [bz (by simp),step y];simp [Rx,Zj]
     ·rw [aR (by simpa using V),step x];have:Zj x y=x:=by unfold Zj;rw [aR V]
      simp only [List.zipWith_cons_cons,List.zip_cons_cons,xr,Rx,this]
  have I:=kc b [] a true hl;rw [ug,kW]at I;rw [I,kr a b 0 [] true rfl hl (by simp;omega)];exact⟨_,_,_,by rw [Cj],rfl,fun _=>rfl⟩
 ·rw [bz (by simp;omega),bz (by simp;omega)];exact⟨[],false,[],rfl,rfl,fun _=>rfl⟩
def UC(c:aV)(n:ai)(a b:List Int)(hn:cI n)(hop:n.Op=8)(ha:cO c.v' n.A=some a):G7 (jV c n) (bB n a b) ((c.v'.length:Int)==i64.wrap ((c.D'.j'.length:Int)-(1:Int))):=by
 have h:=hn.order;have hr:bB n a b=dJ n a jl true (0:Int):=by unfold bB;rw [aR (by simp [hop]),aR (by simp [hop]),aR (by simp [hop]),aR (by simp [hop]),aR (by simp [hop]),aR (by simp [hop]),aR (by simp [hop])]
 have key: ∀(tl:List kU) (i:Nat) (fu:Nat) (ok:Bool),n.R'.drop i=tl->i+tl.length=n.R'.length->tl.length<fu->dJ n a fu ok (i:Int)=some (a,((((ok&&tl.all fun e=>decide (0<=e.X')&&decide (e.X'<(a.length:Int)))&&(decide ((n.R'.length:Int)<=(3:Int))))&&(decide ((-1:Int)<=n.U')))&&(decide (n.U'<=(2147483647:Int))))):=by
  intro tl
  induction tl with
  |nil=>
   intro i fu ok hd hi hf;obtain⟨fu,rfl⟩: ∃k,fu=k+1:=⟨fu-1,by omega⟩;simp only [ug,vY]at hi;rw [dJ,aR (by simp;omega)];simp
  |cons x tl ih=>
   intro i fu ok hd hi hf;simp only [jo]at hf hi;obtain⟨fu,rfl⟩: ∃k,fu=k+1:=⟨fu-1,by omega⟩;obtain⟨I,M,h3⟩:=kp hd;rw [dJ,bz (by simp;omega),I,cB (by omega) (by omega)];simp only [bw];have e:((i:Int)+1)=((i+1:Nat):Int):=by omega
   rw [e];have e2:((if ok=true then some (decide ((0:Int)<=x.X'))else some false).bind fun t=>(if t=true then some (decide (x.X'<(a.length:Int)))else some false).bind fun t1=>dJ n a fu t1 ((i+1:Nat):Int))=dJ n a fu (ok&&(decide (0<=x.X')&&decide (x.X'<(a.length:Int)))) ((i+1:Nat):Int):=by
    cases ok<;>by_cases V:(0:Int)<=x.X'<;>simp [V]
   rw [e2,ih (i+1) fu _ h3 (by omega) (by omega)];simp only [xr,Ip]
 rw [hr,show((0:Int))=((0:Nat):Int)from rfl,key n.R' 0 jl true rfl (by simp) (Ca (BX _) (oQ (by omega)))];unfold jV;rw [ha];simp only [bw];rw [Ek (f:=oP a) (g:=fun o=>(decide (o.X'<(0:Int)))||(decide ((a.length:Int)<=o.X'))) (fun v=>rfl)];simp only [bw];have e3:(!(n.R'.any fun o=>(decide (o.X'<(0:Int)))||(decide ((a.length:Int)<=o.X'))))=n.R'.all fun e=>decide (0<=e.X')&&decide (e.X'<(a.length:Int)):=by
  rw [List.not_any_eq_all_not];congr 1;funext k;rw [ES];simp
 rw [e3];refine⟨a,_,a,?_,rfl,fun _=>rfl⟩;cases h4:(n.R'.all fun e=>decide (0<=e.X')&&decide (e.X'<(a.length:Int)))<;>by_cases l1:(n.R'.length:Int)<=3<;>simp [l1]
def JP(op:Int):Bool:=decide (1<=op)&&decide (op<=8)
def uL{op:Int}(h:JP op=true):op=1\/op=2\/op=3\/op=4\/op=5\/op=6\/op=7\/op=8:=by
 simp [JP]at h;omega
def HC(n:ai):Bool:=(AE n).getD false
def xW(n:ai):AE n=some (HC n):=by
 unfold HC AE;repeat' split
 all_goals rfl
def alv(l:List α):((l.length:Int)==0)=l.isEmpty:=by cases l<;>simp<;>omega
def agQ(l:List α):decide ((0:Int)<(l.length:Int))= !l.isEmpty:=by cases l<;>simp<;>omega
def ZN(n:ai)(h:JP n.Op=true):((y5 n).bind fun r=>(y0 r).bind fun r1=>some r1)=some (HC n):=by
 obtain⟨op,A,B,afe,v',left,cond,keys,aggs,items,order,limit⟩:=n;unfold HC AE y5 y0;simp only [alv,agQ];rcases uL h with h|h|h|h|h|h|h|h<;>simp only at h<;>subst h<;>simp<;>(try (by_cases t:afe=0<;>simp [t]))<;>(try (by_cases lm:limit=0<;>simp [lm]))<;>(try (cases left<;>simp))<;>(try (by_cases e1:v'=[]<;>simp [e1]))<;>(try (by_cases e2:cond.j'=[]<;>simp [e2]))<;>(try (by_cases e3:keys=[]<;>simp [e3]))<;>(try (by_cases e4:aggs=[]<;>simp [e4]))<;>(try (by_cases e5:items=[]<;>simp [e5]))<;>(try (by_cases e6:order=[]<;>simp [e6]))
def Z5{β:Type}(f1 f2 f3 f4 f5 f6 f7 f8:β)(k:Int):m5 (dO (dO (dO (dO (dO (dO (dO (dO ([]:List (Int×β)) 1 f1) 2 f2) 3 f3) 4 f4) 5 f5) 6 f6) 7 f7) 8 f8) k=
  if k=1 then some f1 else if k=2 then some f2 else if k=3 then some f3 else if k=4 then some f4 else if k=5 then some f5 else if k=6 then some f6 else if k=7 then some f7 else if k=8 then some f8 else none:=by
 have e:dO (dO (dO (dO (dO (dO (dO (dO ([]:List (Int×β)) 1 f1) 2 f2) 3 f3) 4 f4) 5 f5) 6 f6) 7 f7) 8 f8=[(1,f1),(2,f2),(3,f3),(4,f4),(5,f5),(6,f6),(7,f7),(8,f8)]:=rfl;rw [e];simp only [m5,eq_comm (b:=k)]
def LR(op:Int):zE op=some (if op=1 then 0 else if op=2\/op=7 then 2 else 1):=by
 unfold zE vC;by_cases I:op=1
 ·simp [I]
 by_cases M:op=2
 ·simp [M]
 by_cases h7:op=7
 ·simp [h7]
 simp [I,M,h7]
def pS(op:Int):CF op=some (if op=1 then 0 else if op=2\/op=7 then 2 else if JP op then 1 else -1):=by
 unfold CF yS pQ;by_cases h:JP op=true
 ·rcases uL h with rfl|rfl|rfl|rfl|rfl|rfl|rfl|rfl<;>rfl
 ·have h' : ¬(1<=op/\op<=8):=fun hh=>h (by simp [JP];omega);have I: ¬op=1:=by omega
  have M: ¬op=2:=by omega
  have h3: ¬op=3:=by omega
  have h4: ¬op=4:=by omega
  have h5: ¬op=5:=by omega
  have h6: ¬op=6:=by omega
  have h7: ¬op=7:=by omega
  have h8: ¬op=8:=by omega
  simp [I,M,h3,h4,h5,h6,h7,h8,h]
structure Vv(l:aZ)(j:Nat)(f:Int)(ks:List Int)(s:Nat):Prop where
 pos:1<=s
 le:s<=j+1
 fst:f=(j:Int)+1-(s:Int)
 size: ∀fu,j+1<fu->cY fu l (j:Int)=some (s:Int)
 len:ks.length<=16
 v': ∀fu,j+1<fu->dl fu l (j:Int)=some (ks,true)
structure TQ(l:aZ)(i:Nat)(first:List Int)(v':List (List Int)):Prop where
 fl:first.length=i
 kl:v'.length=i
 node: ∀j,j<i-> ∃f ks s,first[j]? =some f/\v'[j]? =some ks/\Vv l j f ks s
variable{first:List Int}
def TQ.push{v':List (List Int)}(h:TQ l i first v'){f:Int}{ks:List Int}{s:Nat}(hn:Vv l i f ks s):TQ l (i+1) (first++[f]) (v'++[ks]):=by
 refine⟨by simp [h.fl],by simp [h.kl],fun j hj=>?_⟩;by_cases hji:j=i
 ·subst hji;refine⟨f,ks,s,?_,?_,hn⟩
  ·rw [we (by rw [h.fl];exact kG _),h.fl,Ar];rfl
  ·rw [we (by rw [h.kl];exact kG _),h.kl,Ar];rfl
 ·obtain⟨f',ks',s',I,M,h3⟩:=h.node j (by omega);exact⟨f',ks',s',by rw [EU (by rw [h.fl];omega)];exact I,by rw [EU (by rw [h.kl];omega)];exact M,h3⟩
def Xx(n:ai)(i:Nat):Prop:=
 (n.Op=1->n.A= -1/\n.B= -1)/\(n.Op≠1->0<i/\0<=n.A/\n.A<i)/\(n.Op=2\/n.Op=7->n.B=(i:Int)-1)/\(n.Op≠1->n.Op≠2->n.Op≠7->n.B= -1)
def Ay(l:aZ){fu:Nat}(hf:0<fu){p:Int}(h:p<0):cY fu l p=some 0:=by
 obtain⟨fu,rfl⟩: ∃k,fu=k+1:=⟨fu-1,by omega⟩;unfold cY;rw [bz (by simp [h])]
def Vo{v':List (List Int)}(hI:TQ l i first v'){n:ai}(hn:cO l.j' (i:Int)=some n)(hi:i<l.j'.length)(hl:l.j'.length<=1000)(hop:JP n.Op=true):
  ∃f ok,nM ⟨l,v',first⟩ (i:Int)=some (f,ok)/\((ok=true/\ ∃s:Nat,1<=s/\s<=i+1/\f=(i:Int)+1-(s:Int)/\(∀fu,i+1<fu->cY fu l (i:Int)=some (s:Int))/\Xx n i)\/(ok=false/\ ∀fu,i+1<fu->cY fu l (i:Int)=some 0)):=by
 have hstep: ∀fu,i+1<fu-> ∃fu',fu=fu' +1/\i<fu' :=fun fu h=>⟨fu-1,by omega,by omega⟩;unfold nM;simp only [hn,bw,LR];by_cases I:n.Op=1
 ·-- nothing below
  simp only [I,hM];rw [bz (by decide)];refine⟨_,_,rfl,?_⟩;by_cases hAB:n.A= -1/\n.B= -1
  ·refine .inl ⟨by simp [hAB],1,kG _,by omega,by omega,fun fu hf=>?_,⟨fun _=>hAB,fun h=>absurd I h,fun h=>by omega,fun h=>absurd I h⟩⟩;obtain⟨fu',rfl,_⟩:=hstep fu hf;unfold cY;rw [aR (by simp;omega),hn];simp only [bw,pS,I,hM];rw [bz (by decide),bz (by simp [hAB])];rfl
  ·have H:(n.A== -1&&n.B== -1)=false:=by rw [zW];intro h;apply hAB;simpa using h
   refine .inr ⟨H,fun fu hf=>?_⟩;obtain⟨fu',rfl,_⟩:=hstep fu hf;unfold cY;rw [aR (by simp;omega),hn];simp only [bw,pS,I,hM];rw [bz (by decide),aR (by rw [H];decide)]
 ·by_cases h27:n.Op=2\/n.Op=7
  ·-- two below
   simp only [I,h27,hM,gT];rw [aR (by decide),aR (by decide)];have hsz: ∀fu,i<fu->cY (fu+1) l (i:Int)=if n.B=(i:Int)-1 then((cY fu) l n.B).bind (fun r2=>if((decide ((0:Int)<r2))&&(n.A==(i64.wrap (n.B-r2))))then(((cY fu) l n.A).bind fun r3=>if(decide ((0:Int)<r3))then(some (i64.wrap ((i64.wrap (r3+r2))+(1:Int))))else(some (0:Int)))else(some (0:Int)))else some 0:=by
    intro fu hfu
    conv=>lhs;unfold cY
    rw [aR (by simp;omega),hn];simp only [bw,pS,I,h27,hM,gT];rw [aR (by decide),aR (by decide),bz (by decide),cB (n:=(i:Int)-1) (by omega) (by omega)];by_cases hB:n.B=(i:Int)-1
    ·rw [bz (by simp [hB]),bz hB]
    ·rw [aR (by simpa using hB),aR hB]
   by_cases hB:n.B=(i:Int)-1/\0<i
   ·have hcond:(!((n.B !=i64.wrap ((i:Int)-1))||((i:Int)==0)))=true:=by
     rw [cB (by omega) (by omega)];have: ¬((i:Int)=0):=by omega
     simp [hB.1,this];omega
    rw [bz hcond];obtain⟨fB,kB,sB,g1,g2,g3⟩:=hI.node (i-1) (by omega);have hBi:n.B=((i-1:Nat):Int):=by omega
    have hidx:cO first n.B=some fB:=by rw [hBi,cG];exact g1
    rw [hidx];have hfB:=g3.fst;have hsB:=g3.pos;have hsB2:=g3.le;simp only [bw];rw [cB (n:=fB-1) (by omega) (by omega)];by_cases hA:n.A=fB-1/\0<=n.A
    ·rw [aR (by simp [hA.1];omega)];obtain⟨fA,kA,sA,q1,q2,q3⟩:=hI.node n.A.toNat (by omega);have hidA:cO first n.A=some fA:=by
      rw [show n.A=((n.A.toNat:Nat):Int)from by omega,cG];exact q1
     rw [hidA];have hfA:=q3.fst;have hsA:=q3.pos;have hsA2:=q3.le;refine⟨fA,true,rfl,.inl ⟨rfl,sA+sB+1,by omega,by omega,by omega,fun fu hf=>?_,⟨fun h=>absurd h I,fun _=>⟨hB.2,hA.2,by omega⟩,fun _=>hB.1,fun _ M h7=>by rcases h27 with h|h;exact absurd h M;exact absurd h h7⟩⟩⟩;obtain⟨fu',rfl,hf'⟩:=hstep fu hf;rw [hsz fu' hf',bz hB.1];have e1:=g3.size fu' (by omega);rw [<-hBi]at e1;rw [e1];simp only [bw];rw [cB (n:=n.B-(sB:Int)) (by omega) (by omega),bz (by simp;omega)];have e2:=q3.size fu' (by omega);rw [show((n.A.toNat:Nat):Int)=n.A from by omega]at e2;rw [e2];simp only [bw];rw [bz (by simp;omega),cB (n:=(sA:Int)+(sB:Int)) (by omega) (by omega),cB (by omega) (by omega)];congr 1
    ·have H:(n.A !=fB-1||decide (n.A<0))=true:=by
      simp only [xv,yD,nE];by_cases h:n.A=fB-1
      ·exact .inr (by omega)
      ·exact .inl h
     rw [bz H];refine⟨0,false,rfl,.inr ⟨rfl,fun fu hf=>?_⟩⟩;obtain⟨fu',rfl,hf'⟩:=hstep fu hf;rw [hsz fu' hf',bz hB.1];have e1:=g3.size fu' (by omega);rw [<-hBi]at e1;rw [e1];simp only [bw];rw [cB (n:=n.B-(sB:Int)) (by omega) (by omega)];by_cases h:n.A=fB-1
     ·rw [bz (by simp;omega),Ay l (by omega) (by omega)];rfl
     ·rw [aR (by simp;omega)]
   ·have hcond:(!((n.B !=i64.wrap ((i:Int)-1))||((i:Int)==0)))=false:=by
     rw [cB (by omega) (by omega)];by_cases h:n.B=(i:Int)-1
     ·have:i=0:=by omega
      simp [this]
     ·simp [h]
    rw [hcond];simp only [jM,gT,bw,Bool.true_or,hM];refine⟨0,false,rfl,.inr ⟨rfl,fun fu hf=>?_⟩⟩;obtain⟨fu',rfl,hf'⟩:=hstep fu hf;rw [hsz fu' hf'];by_cases h:n.B=(i:Int)-1
    ·rw [bz h];rw [Ay l (by omega) (by omega)];rfl
    ·rw [aR h]
  ·-- one below
   simp only [I,h27,gT];rw [aR (by decide),bz (by decide)];have hsz: ∀fu,i<fu->cY (fu+1) l (i:Int)=if n.A=(i:Int)-1/\n.B= -1 then((cY fu) l n.A).bind (fun r1=>if(decide ((0:Int)<r1))then(some (i64.wrap (r1+(1:Int))))else(some (0:Int)))else some 0:=by
    intro fu hfu
    conv=>lhs;unfold cY
    rw [aR (by simp;omega),hn];simp only [bw,pS,I,h27,hop,hM,gT];rw [aR (by decide),bz (by decide),cB (n:=(i:Int)-1) (by omega) (by omega)];by_cases hB:n.A=(i:Int)-1/\n.B= -1
    ·rw [bz (by simp [hB]),bz hB]
    ·rw [aR (by simpa using hB),aR hB]
   rw [cB (by omega) (by omega)];by_cases hA:(n.A=(i:Int)-1/\n.B= -1)/\0<i
   ·rw [aR (by simp [hA.1];omega)];obtain⟨fA,kA,sA,g1,g2,g3⟩:=hI.node (i-1) (by omega);have hAi:n.A=((i-1:Nat):Int):=by omega
    have hidx:cO first n.A=some fA:=by rw [hAi,cG];exact g1
    rw [hidx];have hfA:=g3.fst;have hsA:=g3.pos;have hsA2:=g3.le;refine⟨fA,true,rfl,.inl ⟨rfl,sA+1,by omega,by omega,by omega,fun fu hf=>?_,⟨fun h=>absurd h I,fun _=>⟨hA.2,by omega,by omega⟩,fun h=>absurd h h27,fun _ _ _=>hA.1.2⟩⟩⟩;obtain⟨fu',rfl,hf'⟩:=hstep fu hf;rw [hsz fu' hf',bz hA.1];have e1:=g3.size fu' (by omega);rw [<-hAi]at e1;rw [e1];simp only [bw];rw [bz (by simp;omega),cB (by omega) (by omega)];rfl
   ·have H:(n.A !=(i:Int)-1||n.B != -1||(i:Int)==0)=true:=by
     simp only [xv,yD,xq];by_cases h:n.A=(i:Int)-1
     ·by_cases h' :n.B= -1
      ·exact .inr (by omega)
      ·exact .inl (.inr h')
     ·exact .inl (.inl h)
    rw [bz H];refine⟨0,false,rfl,.inr ⟨rfl,fun fu hf=>?_⟩⟩;obtain⟨fu',rfl,hf'⟩:=hstep fu hf;rw [hsz fu' hf'];by_cases h:n.A=(i:Int)-1/\n.B= -1
    ·rw [bz h,Ay l (by omega) (by omega)];rfl
    ·rw [aR h]
def UP{v':List (List Int)}(hI:TQ l i first v'){n:ai}(hn:cO l.j' (i:Int)=some n)(hl:l.j'.length<=1000)(hi:i<l.j'.length){s:Nat}(hs:1<=s)(hsz: ∀fu,i+1<fu->cY fu l (i:Int)=some (s:Int))(hp:Xx n i)(ho:HC n=true)(hop:JP n.Op=true):
  ∃a b,(n.Op≠1->cO v' n.A=some a)/\(n.Op=2\/n.Op=7->cO v' n.B=some b)/\a.length<=16/\b.length<=16/\ ∀fu,i+1<fu->dl fu l (i:Int)=ke l (i:Int) n a b:=by
 obtain⟨p1,p2,p3,p4⟩:=hp;have hsz0:nr l (i:Int)=some (s:Int):=hsz jl (Ca (BX _) (oQ (by omega)));have hu: ∀fu,dl (fu+1) l (i:Int)=if(decide ((0:Int)<=n.A))then(((dl fu) l n.A).bind fun r4=>if(!r4.2)then(some ([],false))else(hX (dl fu) l (i:Int) n r4.1))else(hX (dl fu) l (i:Int) n ([])):=by
  intro fu
  conv=>lhs;unfold dl
  rw [hsz0,hn];simp only [bw,xW,ho];have: ¬(s=0):=by omega
  simp [this]
 by_cases I:n.Op=1
 ·obtain⟨hA,hB⟩:=p1 I;refine⟨[],[],fun h=>absurd I h,fun h=>by omega,by simp,by simp,fun fu hf=>?_⟩;obtain⟨fu,rfl⟩: ∃k,fu=k+1:=⟨fu-1,by omega⟩;rw [hu,aR (by simp [hA])];unfold hX;rw [aR (by simp [hB])]
 ·obtain⟨hi0,hA0,hAi⟩:=p2 I;obtain⟨fA,kA,sA,g1,g2,g3⟩:=hI.node n.A.toNat (by omega);have eA:((n.A.toNat:Nat):Int)=n.A:=by omega
  have hkA:cO v' n.A=some kA:=by rw [<-eA,cG];exact g2
  by_cases h27:n.Op=2\/n.Op=7
  ·have hB:=p3 h27;obtain⟨fB,kB,sB,q1,q2,q3⟩:=hI.node (i-1) (by omega);have eB:((i-1:Nat):Int)=n.B:=by omega
   have hkB:cO v' n.B=some kB:=by rw [<-eB,cG];exact q2
   refine⟨kA,kB,fun _=>hkA,fun _=>hkB,g3.len,q3.len,fun fu hf=>?_⟩;obtain⟨fu,rfl⟩: ∃k,fu=k+1:=⟨fu-1,by omega⟩;rw [hu,bz (by simpa using hA0)];have e1:=g3.v' fu (by omega);rw [eA]at e1;rw [e1];simp only [bw,rM,jM,gT];unfold hX;rw [bz (by simp;omega)];have e2:=q3.v' fu (by omega);rw [eB]at e2;rw [e2];simp only [bw,rM,jM,gT]
  ·have hB:=p4 I (fun h=>h27 (.inl h)) (fun h=>h27 (.inr h));refine⟨kA,[],fun _=>hkA,fun h=>absurd h h27,g3.len,by simp,fun fu hf=>?_⟩;obtain⟨fu,rfl⟩: ∃k,fu=k+1:=⟨fu-1,by omega⟩;rw [hu,bz (by simpa using hA0)];have e1:=g3.v' fu (by omega);rw [eA]at e1;rw [e1];simp only [bw,rM,jM,gT];unfold hX;rw [aR (by simp [hB])]
def LU{n:ai}(hn:cO l.j' (i:Int)=some n)(hl:i<1000)(h:(∀fu,i+1<fu->cY fu l (i:Int)=some 0)\/((∃s:Int,∀fu,i+1<fu->cY fu l (i:Int)=some s)/\HC n=false)):wY l (i:Int)=some ([],false):=by
 have hF:i+1<jl:=Ca (BX _) (oQ (by omega));have e:jl=(jl-1)+1:=by omega
 unfold wY;rw [e];unfold dl nr;rcases h with h|⟨⟨s,h⟩,ho⟩
 ·rw [h _ hF];simp
 ·rw [h _ hF,hn];simp only [bw,xW,ho];by_cases hs:s=0<;>simp [hs]
def im(l:aZ):Prop:= ∀n∈l.j',cI n
abbrev alh:=aV->ai->Option (((List Int)×Bool)×aV)
def IQ:List (Int×alh):=(dO (dO (dO (dO (dO (dO (dO (dO ([]:List (Int×(aV->ai->Option (((List Int)×Bool)×aV)))) (1:Int) (fun(mc:aV) (mx:ai)=>(jr mc mx).map fun mr=>(mr,mc))) (2:Int) (fun(mc:aV) (mx:ai)=>(kC mc mx).map fun mr=>(mr,mc))) (3:Int) (fun(mc:aV) (mx:ai)=>(js mc mx).map fun mr=>(mr,mc))) (4:Int) (fun(mc:aV) (mx:ai)=>(jW mc mx).map fun mr=>(mr,mc))) (5:Int) (fun(mc:aV) (mx:ai)=>(i6 mc mx).map fun mr=>(mr,mc))) (6:Int) (fun(mc:aV) (mx:ai)=>(iC mc mx).map fun mr=>(mr,mc))) (7:Int) (fun(mc:aV) (mx:ai)=>(jU mc mx).map fun mr=>(mr,mc))) (8:Int) (fun(mc:aV) (mx:ai)=>(jV mc mx).map fun mr=>(mr,mc)))
def Z6(op:Int):(m5 IQ op).isSome=JP op:=by
 unfold IQ;rw [Z5];by_cases h:JP op=true
 ·rw [h];rcases uL h with rfl|rfl|rfl|rfl|rfl|rfl|rfl|rfl<;>rfl
 ·rw [zW.2 h];have h' : ¬(1<=op/\op<=8):=fun hh=>h (by simp [JP];omega);have I: ¬op=1:=by omega
  have M: ¬op=2:=by omega
  have h3: ¬op=3:=by omega
  have h4: ¬op=4:=by omega
  have h5: ¬op=5:=by omega
  have h6: ¬op=6:=by omega
  have h7: ¬op=7:=by omega
  have h8: ¬op=8:=by omega
  simp [I,M,h3,h4,h5,h6,h7,h8]
def Yl(c:aV)(n:ai)(a b:List Int)(hn:cI n)(hop:JP n.Op=true)(ha:n.Op≠1->cO c.v' n.A=some a)(H:n.Op=2\/n.Op=7->cO c.v' n.B=some b)(hal:a.length<=16)(hbl:b.length<=16):
  ∃k o k',((m5 IQ n.Op).getD (fun _ _=>none)) c n=some ((k,o&&(if n.Op=8 then(c.v'.length:Int)==i64.wrap ((c.D'.j'.length:Int)-(1:Int))else true)),c)/\bB n a b=some (k',o)/\(o=true->k=k'):=by
 have go: ∀(m:Option (List Int×Bool)) (last:Bool),G7 m (bB n a b) last->((m5 IQ n.Op).getD (fun _ _=>none)) c n=m.map (fun mr=>(mr,c))->(if n.Op=8 then(c.v'.length:Int)==i64.wrap ((c.D'.j'.length:Int)-(1:Int))else true)=last-> ∃k o k',((m5 IQ n.Op).getD (fun _ _=>none)) c n=some ((k,o&&(if n.Op=8 then(c.v'.length:Int)==i64.wrap ((c.D'.j'.length:Int)-(1:Int))else true)),c)/\bB n a b=some (k',o)/\(o=true->k=k'):=by
  intro m last ⟨k,o,k',I,M,h3⟩ he hl;exact⟨k,o,k',by rw [he,I,hl];rfl,M,h3⟩
 unfold IQ at go ⊢;rw [Z5]at go ⊢;rcases uL hop with h|h|h|h|h|h|h|h
 ·exact go _ _ (Od c n a b hn h) (by simp [h]) (by simp [h])
 ·exact go _ _ (Ys c n a b hn h (ha (by omega)) (H (.inl h)) hal hbl) (by simp [h]) (by simp [h])
 ·exact go _ _ (S4 c n a b hn h (ha (by omega))) (by simp [h]) (by simp [h])
 ·exact go _ _ (UQ c n a b hn h (ha (by omega))) (by simp [h]) (by simp [h])
 ·exact go _ _ (PN c n a b hn h (ha (by omega))) (by simp [h]) (by simp [h])
 ·exact go _ _ (NC c n a b h (ha (by omega))) (by simp [h]) (by simp [h])
 ·exact go _ _ (T4 c n a b h (ha (by omega)) (H (.inr h)) hal) (by simp [h]) (by simp [h])
 ·exact go _ _ (UC c n a b hn h (ha (by omega))) (by simp [h]) (by simp [h])
def Yh{Sg:Type}(yld:(Int×Bool)->Sg->Option (Bool×Sg)){v':List (List Int)}(hI:TQ l i first v'){n:ai}{tl:List ai}(hd:l.j'.drop i=n::tl)(hS:im l)(hl:l.j'.length<=60)(st:Sg):
  ∃first' kinds' ok,cm yld (n::tl) i st ⟨l,v',first⟩=((yld ((i:Int),ok) st).bind fun r2=>if((!r2.1)||(!ok))then some (r2.2,⟨l,kinds',first'⟩)else cm yld tl (i+1) r2.2 ⟨l,kinds',first'⟩)/\(∃x,wY l (i:Int)=some (x,ok))/\(ok=true->TQ l (i+1) first' kinds'):=by
 obtain⟨hn,hi,_⟩:=kp hd;have hfl:=hI.fl;have hkl:=hI.kl;have hSn:cI n:=hS n (by
  rw [cG]at hn;exact FS hn)
 have hF:i+1<jl:=Ca (BX _) (oQ (by omega));have hu:cm yld (n::tl) i st ⟨l,v',first⟩=(if(m5 IQ n.Op).isSome then((y5 n).bind fun r=>(y0 r).bind fun r1=>some r1)else some false).bind fun t=>if t then((nM ⟨l,v',first⟩ (i:Int)).bind fun r4=>(app first ([r4.1])).bind fun l7=>gE yld (cm yld tl) i n st r4.2 ⟨l,v',l7⟩)else(gE yld (cm yld tl) i n st t ⟨l,v',first⟩):=rfl;rw [hu,Z6];have hk2: ∀(ok1:Bool) (k:List Int) (f' :List Int),jJ yld (cm yld tl) i st ok1 k ⟨l,v',f'⟩=((yld ((i:Int),ok1&&decide (k.length<=16)) st).bind fun r2=>if((!r2.1)||(!(ok1&&decide (k.length<=16))))then some (r2.2,⟨l,v'++[k],f'⟩)else cm yld tl (i+1) r2.2 ⟨l,v'++[k],f'⟩):=by
  intro ok1 k f';unfold jJ;rw [cF (by simp;omega)];have:decide ((k.length:Int)<=16)=decide (k.length<=16):=by rw [ES];simp;omega
  simp only [bw,this]
 have hk1: ∀(f' :List Int),gE yld (cm yld tl) i n st false ⟨l,v',f'⟩=((yld ((i:Int),false) st).bind fun r2=>if((!r2.1)||(!false))then some (r2.2,⟨l,v'++[[]],f'⟩)else cm yld tl (i+1) r2.2 ⟨l,v'++[[]],f'⟩):=by
  intro f';unfold gE;rw [aR (by decide),hk2];rfl
 by_cases hop:JP n.Op=true
 ·rw [bz hop,ZN n hop];simp only [bw];obtain⟨f,ok,hb1,hb2⟩:=Vo hI hn hi (by omega) hop
  cases ho:HC n with
  |false=>
   simp only [jM,gT];rw [hk1];refine⟨first,v'++[[]],false,rfl,⟨[],LU hn (by omega) (.inr ⟨?_,ho⟩)⟩,by simp⟩;rcases hb2 with⟨_,s,_,_,_,h,_⟩|⟨_,h⟩
   ·exact⟨s,h⟩
   ·exact⟨0,h⟩
  |true=>
   simp only [hM];rw [hb1];simp only [bw];rw [cF (by simp;omega)];simp only [bw];rcases hb2 with⟨hok,s,hs,hs2,hf,hsz,hp⟩|⟨hok,h⟩
   ·subst hok;obtain⟨a,b,ha,H,hal,hbl,hK⟩:=UP hI hn (by omega) hi hs hsz hp ho hop;obtain⟨k,o,k',m1,m2,m3⟩:=Yl ⟨l,v',first++[f]⟩ n a b hSn hop ha H hal hbl;have hk1' :gE yld (cm yld tl) i n st true ⟨l,v',first++[f]⟩=((((m5 IQ n.Op).getD (fun _ _=>none)) ⟨l,v',first++[f]⟩ n).bind fun r3=>jJ yld (cm yld tl) i st r3.1.2 r3.1.1 r3.2):=rfl;rw [hk1',m1];simp only [bw];rw [hk2];have hlast:((v'.length:Int)==i64.wrap ((l.j'.length:Int)-1))=((i:Int)==i64.wrap ((l.j'.length:Int)-1)):=by rw [hkl]
    have hKk: ∀fu,i+1<fu-> ∃x,dl fu l (i:Int)=some (x,(o&&(if n.Op=8 then(v'.length:Int)==i64.wrap ((l.j'.length:Int)-(1:Int))else true))&&decide (k.length<=16))/\(((o&&(if n.Op=8 then(v'.length:Int)==i64.wrap ((l.j'.length:Int)-(1:Int))else true))&&decide (k.length<=16))=true->x=k):=by
     intro fu hf;rw [hK fu hf];unfold ke;rw [m2];simp only [bw];rw [hlast]
     cases o with
     |false=>
      simp only [Kl];split
      ·exact⟨_,rfl,by simp⟩
      ·exact⟨_,rfl,by simp⟩
     |true=>
      have:=m3 rfl;subst this;simp only [Al];by_cases h8:n.Op=8
      ·by_cases hL:(i:Int)=i64.wrap ((l.j'.length:Int)-1)
       ·by_cases h16:k.length<=16
        ·rw [aR (by simp [<-hL];omega)];exact⟨k,by simp [h8,hL,h16],fun _=>rfl⟩
        ·rw [bz (by simp;omega)];exact⟨[],by simp [h16],by simp [h16]⟩
       ·rw [bz (by simp [h8,hL])];exact⟨[],by simp [h8,hL],by simp [h8,hL]⟩
      ·by_cases h16:k.length<=16
       ·rw [aR (by simp [h8];omega)];exact⟨k,by simp [h8,h16],fun _=>rfl⟩
       ·rw [bz (by simp;omega)];exact⟨[],by simp [h16],by simp [h16]⟩
    refine⟨first++[f],v'++[k],_,rfl,?_,fun hok=>?_⟩
    ·obtain⟨x,I,_⟩:=hKk jl hF;exact⟨x,I⟩
    ·refine hI.push (s:=s) ⟨hs,hs2,hf,hsz,?_,fun fu hfu=>?_⟩
     ·simp at hok;exact hok.2
     ·obtain⟨x,I,M⟩:=hKk fu hfu;rw [I,M hok,hok]
   ·subst hok;rw [hk1];exact⟨first++[f],v'++[[]],false,rfl,⟨[],LU hn (by omega) (.inl h)⟩,by simp⟩
 ·rw [aR hop];simp only [bw,jM,gT];rw [hk1];refine⟨first,v'++[[]],false,rfl,⟨[],LU hn (by omega) (.inl fun fu hf=>?_)⟩,by simp⟩;obtain⟨fu,rfl⟩: ∃k,fu=k+1:=⟨fu-1,by omega⟩;unfold cY;rw [aR (by simp;omega),hn];simp only [bw,pS];have I: ¬n.Op=1:=fun h=>hop (by rw [h];rfl);have M: ¬n.Op=2:=fun h=>hop (by rw [h];rfl);have h7: ¬n.Op=7:=fun h=>hop (by rw [h];rfl);simp [I,M,h7,hop]
def acC(hS:im l)(hl:l.j'.length<=60): ∀(tl:List ai) (i:Nat) (first:List Int) (v':List (List Int)),TQ l i first v'->l.j'.drop i=tl->i+tl.length=l.j'.length->
  ∃st ob,cm (B4 (fun x s=>tR x s.1 s.2.1 s.2.2)) tl i (none,(false,(0:Int),false)) ⟨l,v',first⟩=some (st,ob)/\ob.D'=l/\
   ((st=(none,(false,(0:Int),false))/\TQ l l.j'.length ob.first ob.v'/\iL l tl i=iL l [] l.j'.length)\/(∃j:Nat,st=(some 0,(false,(j:Int),true))/\iL l tl i=some (j:Int))):=by
 intro tl
 induction tl with
 |nil=>
  intro i first v' hI hd hi
  simp only [ug,vY]at hi;subst hi;exact⟨_,_,rfl,rfl,.inl ⟨rfl,hI,rfl⟩⟩
 |cons n tl ih=>
  intro i first v' hI hd hi
  simp only [jo]at hi;obtain⟨f',k',ok,I,⟨x,M⟩,h3⟩:=Yh (B4 (fun x s=>tR x s.1 s.2.1 s.2.2)) hI hd hS hl (none,(false,(0:Int),false));rw [I];have hW:iL l (n::tl) i=if(!ok)then some (i:Int)else iL l tl (i+1):=by
   conv=>lhs;unfold iL
   rw [M];rfl
  rw [hW]
  cases ok with
  |false=>exact⟨_,_,rfl,rfl,.inr ⟨i,rfl,rfl⟩⟩
  |true=>
   obtain⟨st,ob,g1,g2,g3⟩:=ih (i+1) f' k' (h3 rfl) (kp hd).2.2 (by omega);refine⟨st,ob,?_,g2,?_⟩
   ·exact g1
   ·simpa using g3
def TQ.nil(l:aZ):TQ l 0 [] []:=⟨rfl,rfl,fun j h=>absurd h (Nat.not_lt_zero _)⟩
structure Vw(l:aZ)(ob:aV):Prop where
 logic:ob.D'=l
 pos:1<=l.j'.length
 le:l.j'.length<=60
 inv:TQ l l.j'.length ob.first ob.v'
 whole:nr l ((l.j'.length:Int)-1)=some (l.j'.length:Int)
def acD(hS:im l): ∃ob j ok,sx l=some (ob,j,ok)/\wX l=some (if ok then -1 else j)/\(0<=j)/\(ok=true->Vw l ob/\j=(l.j'.length:Int)-1):=by
 unfold sx wX;by_cases h:l.j'.length<1\/60<l.j'.length
 ·rw [bz (by simp;omega),bz (by simp;omega)];exact⟨_,_,_,rfl,rfl,Int.le_refl _,by simp⟩
 ·rw [aR (by simp;omega),aR (by simp;omega)];unfold vD;simp only [bw];unfold pG;obtain⟨st,ob,I,M,h3⟩:=acC hS (by omega) l.j' 0 [] [] (TQ.nil l) rfl (by simp);have h1' :cm (B4 (fun x s=>tR x s.1 s.2.1 s.2.2)) (⟨l,[],[]⟩:aV).D'.j' 0 (none,(false,(0:Int),false)) ⟨l,[],[]⟩=some (st,ob):=I;rw [h1'];simp only [bw];rcases h3 with⟨rfl,hI,hW⟩|⟨j,rfl,hW⟩
  ·simp only [Option.isNone_none,hM];rw [cB (by omega) (by omega)];obtain⟨f,ks,s,g1,g2,g3⟩:=hI.node (l.j'.length-1) (by omega);have e:((l.j'.length-1:Nat):Int)=(l.j'.length:Int)-1:=by omega
   have hid:cO ob.first ((l.j'.length:Int)-1)=some f:=by rw [<-e,cG];exact g1
   rw [hid];simp only [bw];have hsz:nr l ((l.j'.length:Int)-1)=some (s:Int):=by
    have:=g3.size jl (Ca (BX _) (oQ (by omega)));rw [e]at this;exact this
   have hf:=g3.fst;refine⟨_,_,_,rfl,?_,by omega,fun hok=>?_⟩
   ·rw [hW];unfold iL;rw [cB (by omega) (by omega),hsz];simp only [bw];by_cases hs:s=l.j'.length
    ·rw [aR (by simp [hs]),bz (by simp;omega)]
    ·rw [bz (by simp;omega),aR (by simp;omega)]
   ·have hs:s=l.j'.length:=by simp at hok;omega
    exact⟨⟨M,by omega,by omega,hI,by rw [hsz,hs]⟩,rfl⟩
  ·simp only [Option.isNone_some,jM,gT];refine⟨ob,(j:Int),false,rfl,by rw [hW];rfl,by omega,by simp⟩
