import Derived.Test.YtaehdhmbgmbgiaaGreatDoorKkQ1
import Derived.Test.YtaehdhmbgmbgiaaGreatDoorKkQ2
set_option linter.all false
namespace Go.Proofs.YtaehdhmbgmbgiaaGreatDoor
open Go IntKind
def zV:ac:=⟨0,0,0,[]⟩
def bV(b:Bool):ac:=⟨1,if b then 1 else 0,0,[]⟩
def iV(n:Int):ac:=⟨2,n,0,[]⟩
def sV(s:Fy):ac:=⟨3,0,0,s⟩
def r64(n:Int):Prop:= -9223372036854775808<=n/\n<=9223372036854775807
inductive Pl:ac->Prop
 |z:Pl zV
 |b (b:Bool):Pl (bV b)
 |i (n:Int) (h:r64 n):Pl (iV n)
 |s (s:Fy) (h:s.length<=40):Pl (sV s)
variable{n:ai}{v:ac}
def Pl.plain(h:Pl v):ss v=true:=by
 cases h with
 |z=>rfl
 |b b=>cases b<;>rfl
 |i n h=>simp [ss,j9,n8,iV]
 |s s h=>
  have h' :(s.length:Int)<=40:=by omega
  simp [ss,j9,n8,sV,h']
def Pl.right(h:Pl v):j9 v=true:=by
 have:=h.plain;unfold ss at this;rw [iX]at this;exact this.1
variable{k:List Int}
def Lw(h:ss v=true)(hr:r64 v.N):Pl v:=by
 obtain⟨k,n,u,s⟩:=v;unfold ss j9 n8 at h;simp only [iX,yD,ne_eq]at h;obtain⟨I,M⟩:=h;by_cases k0:k=0
 ·subst k0;simp at I;rw [show(⟨0,n,u,s⟩:ac)=zV from by simp only [zV];simp [I]];exact .z
 by_cases k1:k=1
 ·subst k1;simp at I;obtain⟨⟨rfl,rfl⟩,I⟩:=I;rcases I with rfl|rfl
  ·exact .b false
  ·exact .b true
 by_cases k2:k=2
 ·subst k2;simp at I;obtain⟨rfl,rfl⟩:=I;exact .i n hr
 by_cases k3:k=3
 ·subst k3;simp at I;obtain⟨⟨rfl,rfl⟩,I⟩:=I;exact .s s (by omega)
 simp [k0,k1,k2,k3,M]at I
def Pl.r64(h:Pl v):r64 v.N:=by
 cases h with
 |z=>exact⟨by decide,by decide⟩
 |b b=>cases b<;>exact⟨by decide,by decide⟩
 |i n h=>exact h
 |s s h=>exact⟨by simp [sV],by simp [sV]⟩
def Pl.check(h:Pl v):o3 v=some 0:=by rw [rX,h.right];rfl
def Pl.plain_eq(h:Pl v):qi v=some true:=by rw [yI,h.plain]
variable{a:ac}
def Zy{b:ac}(ha:Pl a)(H:Pl b):uF [a,b]=some 0:=by
 unfold uF mX mX mX;simp [ha.check,H.check]
variable{r:List ac}
def To{b:ac}(ha:Pl a)(H:Pl b)(tw:Int->Int->Option (Int×Bool)):xk a b tw=
  if(a.Kind=0\/a.Kind=2)/\(b.Kind=0\/b.Kind=2)then(if a.Kind=0\/b.Kind=0 then some (zV,0)else(tw a.N b.N).bind fun r=>if r.2 then some (iV r.1,0)else some (zV,140))else some (zV,2):=by
 unfold xk uT nW nW nW;simp only [ha.check,H.check,bw];cases ha<;>cases H<;>simp [zV,bV,iV,sV,uj,sZ];congr 1;funext r;cases r.2<;>rfl
inductive Tu:ac->Prop
 |z:Tu zV
 |b (b:Bool):Tu (bV b)
def Tu.pl(h:Tu v):Pl v:=by cases h;exact .z;exact .b _
def mn(h:Pl v):Tu v↔v.Kind<=1:=by
 constructor
 ·intro h;cases h<;>simp [zV,bV]
 ·intro hk
  cases h with
  |z=>exact .z
  |b b=>exact .b b
  |i n h=>simp [iV]at hk
  |s s h=>simp [sV]at hk
def tn(v:ac):Int:=if v.Kind=0 then 1 else 2*v.N
def tv(n:Int):ac:=if n=0 then bV false else if n=1 then zV else bV true
def Zo(h:Tu v):tn v=0\/tn v=1\/tn v=2:=by
 cases h with
 |z=>exact .inr (.inl rfl)
 |b b=>cases b;exact .inl rfl;exact .inr (.inr rfl)
def KE(h:Tu v):Cs v=some (tn v):=by
 cases h with
 |z=>rfl
 |b b=>cases b<;>rfl
def Zk{n:Int}(h:n=0\/n=1\/n=2):Tu (tv n):=by
 rcases h with rfl|rfl|rfl
 ·exact .b false
 ·exact .z
 ·exact .b true
def UH(h:Pl v)(hn: ¬Tu v):decide (1<v.Kind)=true:=by
 rw [mn h]at hn;simp;omega
def ai4(h:Tu v):decide (1<v.Kind)=false:=by
 have:=(mn h.pl).1 h;simp;omega
def MH(a b:ac):ac:=tv (min (tn a) (tn b))
def orV(a b:ac):ac:=tv (max (tn a) (tn b))
def UI(a:ac):ac:=tv (2-tn a)
variable{x:Int}
def Py{b:ac}(ha:Tu a)(H:Tu b):yj a b=some (MH a b,0):=by
 cases ha with
 |z=>cases H with
  |z=>rfl
  |b b=>cases b<;>rfl
 |b x=>cases H with
  |z=>cases x<;>rfl
  |b b=>cases x<;>cases b<;>rfl
def Ru{b:ac}(ha:Tu a)(H:Tu b):Au a b=some (orV a b,0):=by
 cases ha with
 |z=>cases H with
  |z=>rfl
  |b b=>cases b<;>rfl
 |b x=>cases H with
  |z=>cases x<;>rfl
  |b b=>cases x<;>cases b<;>rfl
def F9(ha:Tu a):wi a=some (UI a,0):=by
 cases ha with
 |z=>rfl
 |b x=>cases x<;>rfl
def LS{b:ac}(ha:Pl a)(H:Pl b)(h: ¬(Tu a/\Tu b))(tw:List Int->Option Int):rR tw [a,b]=some (zV,2):=by
 unfold rR;rw [Zy ha H];simp only [bw];rw [aR (by decide)];unfold pJ;by_cases I:Tu a
 ·have M: ¬Tu b:=fun k=>h ⟨I,k⟩;rw [ai4 I];simp only [jM,gT,KE I,bw];rw [cF (by simp)];simp only [bw];unfold pJ;rw [UH H M,bz rfl];rfl
 ·rw [UH ha I,bz rfl];rfl
def Nk(ha:Pl a)(h: ¬Tu a):wi a=some (zV,2):=by
 unfold wi rR uF mX mX;rw [ha.check];simp only [bw];rw [aR (by decide)];unfold pJ;simp only [bw];rw [aR (by decide),UH ha h,bz rfl];rfl
def aeH(a b:ac):Int:=(q6 a b).getD 0
variable{c:List Int}{y:Int}
def Hm{b:ac}(ha:Pl a)(H:Pl b):q6 a b=some (aeH a b):=by
 unfold aeH;have: ∃c,q6 a b=some c:=by
  unfold q6;rw [ha.plain_eq,H.plain_eq];simp only [bw,rM,FW,hM,gT];unfold o0 tZ nl qZ xx mD;simp only [FY,bw,jM,gT];have I: ∀x y:Int,∃c,(if decide (x<y)=true then some (-1:Int)else if decide (y<x)=true then some 1 else some 0)=some c:=by
   intro x y;repeat' split
   all_goals exact⟨_,rfl⟩
  obtain⟨c1,e1⟩:=I a.Kind b.Kind;obtain⟨c2,e2⟩:=I a.N b.N;rw [e1,e2];simp only [bw];unfold uB om om om om;repeat' split
  all_goals exact⟨_,rfl⟩
 obtain⟨c,h⟩:=this;rw [h];rfl
variable{α:Type}{f:α->α->Int}
def acO{b:ac}(ha:Pl a)(H:Pl b){is:Int->Option Bool}{f:Int->Bool}(hf: ∀c,is c=some (f c)):wh a b is=
  some (if a.Kind=0\/b.Kind=0 then(zV,0)else if a.Kind=b.Kind then(bV (f (aeH a b)),0)else(zV,2)):=by
 unfold wh;rw [Zy ha H];simp only [bw,Hm ha H,hf,uj];have hbv: ∀x,pg x=some (bV x):=fun x=>by cases x<;>rfl
 simp only [hbv,bw];cases ha<;>cases H<;>simp [zV,bV,iV,sV]
def C7:List (Int×(ac->ac->Option (ac×Int))):=(DK).getD []
def QF:DK=some C7:=rfl
def dzF(tag:Int):ac->ac->Option (ac×Int):=(m5 C7 tag).getD (fun _ _=>none)
def dz4:dzF 4=qJ DP:=rfl
def dz5:dzF 5=qJ wi:=rfl
def dz6:dzF 6=sJ true:=rfl
def dz7:dzF 7=sJ false:=rfl
def alG:dzF 20=po rW:=rfl
def alF:dzF 22=yj:=rfl
def alE:dzF 23=Au:=rfl
def arP(tag x y:Int):Int×Bool:=(if tag=12 then xl x y else if tag=13 then uU x y else if tag=14 then uV x y else uW x y).getD (0,false)
def w7(n:Int):r64 (i64.wrap n):=by rw [Kn];unfold r64;omega
def JM(n:Int)(h:r64 n):uD n=some (n.natAbs:Int):=by
 unfold r64 at h;unfold uD;by_cases hn:n<0
 ·rw [bz (by simpa using hn),Ir,Ir];congr 1;omega
 ·rw [aR (by simpa using hn),Ir];congr 1;omega
variable{tag:Int}
def afV(tag x y:Int)(V:r64 x)(hy:r64 y):(if tag=12 then xl x y else if tag=13 then uU x y else if tag=14 then uV x y else uW x y)=some (arP tag x y)/\r64 (arP tag x y).1:=by
 unfold arP;split
 ·exact⟨rfl,w7 _⟩
 ·split
  ·exact⟨rfl,w7 _⟩
  ·split
   ·unfold uV xA vR;simp only [JM x V,JM y hy,bw];split
    ·exact⟨rfl,w7 _⟩
    ·exact⟨rfl,w7 _⟩
   ·unfold uW;by_cases h0:y=0
    ·subst h0;exact⟨rfl,show r64 0 from⟨by decide,by decide⟩⟩
    ·rw [aR (by simpa using h0)];simp only [JM x V,JM y hy,bw];have hn:nz ((y.natAbs:Nat):Int)=some ():=by
      unfold nz;rw [aR (by omega)]
     rw [hn];unfold vR;simp only [bw];split
     ·exact⟨rfl,w7 _⟩
     ·exact⟨rfl,w7 _⟩
def NH(tag:Int)(a b:ac):ac×Int:=
 if(a.Kind=0\/a.Kind=2)/\(b.Kind=0\/b.Kind=2)then(if a.Kind=0\/b.Kind=0 then(zV,0)else if(arP tag a.N b.N).2 then(iV (arP tag a.N b.N).1,0)else(zV,140))else(zV,2)
def mM(f:Int->Bool)(a b:ac):ac×Int:=if a.Kind=0\/b.Kind=0 then(zV,0)else if a.Kind=b.Kind then(bV (f (aeH a b)),0)else(zV,2)
def Q7(q:ac×Int):ac×Int:=if q.2=0 then(UI q.1,0)else q
def IL(tag:Int)(a b:ac):ac×Int:=
 if tag=4 then NH 13 (iV 0) a else
 if tag=5 then(if a.Kind<=1 then(UI a,0)else(zV,2))else
 if tag=6 then(bV (a.Kind==0),0)else
 if tag=7 then(bV (a.Kind !=0),0)else
 if tag<=15 then NH tag a b else
 if tag=16 then mM (fun c=>c==0) a b else
 if tag=17 then Q7 (mM (fun c=>c==0) a b)else
 if tag=18 then mM (fun c=>decide (c<0)) a b else
 if tag=19 then Q7 (mM (fun c=>decide (c<0)) b a)else
 if tag=20 then mM (fun c=>decide (c<0)) b a else
 if tag=21 then Q7 (mM (fun c=>decide (c<0)) a b)else
 if tag=22 then(if a.Kind<=1/\b.Kind<=1 then(MH a b,0)else(zV,2))else
 (if a.Kind<=1/\b.Kind<=1 then(orV a b,0)else(zV,2))
def y9(f:Int->Bool)(a b:ac):(mM f a b).2=0->Tu (mM f a b).1:=by
 unfold mM;split
 ·intro _;exact .z
 ·split
  ·intro _;exact .b _
  ·intro h;cases h
def OH(f:Int->Bool)(a b:ac):(mM f a b).2≠0->mM f a b=(zV,2):=by
 unfold mM;split
 ·intro h;exact absurd rfl h
 ·split
  ·intro h;exact absurd rfl h
  ·intro _;rfl
def LJ{do1:ac->ac->Option (ac×Int)}{b:ac}{f:Int->Bool}{x y:ac}(h:do1 a b=some (mM f x y)):zb do1 a b=some (Q7 (mM f x y)):=by
 unfold zb Q7;rw [h];simp only [bw];by_cases h0:(mM f x y).2=0
 ·rw [aR (by simp [h0]),bz h0,F9 (y9 f x y h0)];rfl
 ·rw [bz (by simpa using h0),aR h0]
def MF{b:ac}(ha:Pl a)(H:Pl b){tw:Int->Int->Option (Int×Bool)}(h: ∀x y,tw x y=if tag=12 then xl x y else if tag=13 then uU x y else if tag=14 then uV x y else uW x y):
  (xk a b tw).bind (fun r=>some (r.1,r.2))=some (NH tag a b):=by
 rw [To ha H];unfold NH;split
 ·split
  ·rfl
  ·rw [h,(afV tag a.N b.N ha.r64 H.r64).1];simp only [bw];split<;>rfl
 ·rfl
def OG{b:ac}(ha:Pl a)(H:Pl b){is:Int->Option Bool}{f:Int->Bool}(hf: ∀c,is c=some (f c)):(wh a b is).bind (fun r=>some (r.1,r.2))=some (mM f a b):=by
 rw [acO ha H hf];rfl
def Cu{b:ac}(ha:Pl a)(H:Pl b):wT a b=some (mM (fun c=>c==0) a b):=OG ha H fun _=>rfl
def wD{b:ac}(ha:Pl a)(H:Pl b):rW a b=some (mM (fun c=>decide (c<0)) a b):=OG ha H fun _=>rfl
def acn{k:Nat}(h:pk tag=some k)(hk:k≠0):tag=4\/tag=5\/tag=6\/tag=7\/tag=12\/tag=13\/tag=14\/tag=15\/tag=16\/tag=17\/tag=18\/tag=19\/tag=20\/tag=21\/tag=22\/tag=23:=by
 unfold pk at h;repeat' split at h
 all_goals simp at h
 ·exact absurd h.symm hk
 all_goals omega
def ah0{k:Nat}(h:pk tag=some k)(hk:k≠0){b:ac}(ha:Pl a)(H:Pl b):dzF tag a b=some (IL tag a b):=by
 have hbv: ∀x,pg x=some (bV x):=fun x=>by cases x<;>rfl
 rcases acn h hk with rfl|rfl|rfl|rfl|rfl|rfl|rfl|rfl|rfl|rfl|rfl|rfl|rfl|rfl|rfl|rfl
 ·rw [dz4];unfold qJ DP sZ;simp only [bw];have:=MF (tag:=13) (Pl.i 0 ⟨by decide,by decide⟩) ha (tw:=uU) (fun _ _=>rfl);have M:AS (iV 0) a=some (NH 13 (iV 0) a):=this;rw [show(⟨2,0,0,[]⟩:ac)=iV 0 from rfl,M];rfl
 ·rw [dz5];unfold qJ IL;rw [aR (by decide),bz rfl];by_cases J:Tu a
  ·rw [F9 J,bz ((mn ha).1 J)];rfl
  ·rw [Nk ha J,aR (fun h=>J ((mn ha).2 h))];rfl
 ·rw [dz6];unfold sJ;rw [hbv];simp only [bw];unfold IL;rw [aR (by decide),aR (by decide),bz rfl];cases V:(a.Kind==0)<;>rfl
 ·rw [dz7];unfold sJ;rw [hbv];simp only [bw];unfold IL;rw [aR (by decide),aR (by decide),aR (by decide),bz rfl];simp only [bne];cases V:(a.Kind==0)<;>rfl
 ·exact MF (tag:=12) ha H fun _ _=>rfl
 ·exact MF (tag:=13) ha H fun _ _=>rfl
 ·exact MF (tag:=14) ha H fun _ _=>rfl
 ·exact MF (tag:=15) ha H fun _ _=>rfl
 ·exact Cu ha H
 ·exact LJ (Cu ha H)
 ·exact wD ha H
 ·exact LJ (do1:=po rW) (by unfold po;rw [wD H ha];rfl)
 ·rw [alG];unfold po;rw [wD H ha];rfl
 ·exact LJ (wD ha H)
 ·rw [alF];show _=some (if a.Kind<=1/\b.Kind<=1 then(MH a b,0)else(zV,2));by_cases J:Tu a/\Tu b
  ·rw [Py J.1 J.2,bz ⟨(mn ha).1 J.1,(mn H).1 J.2⟩]
  ·rw [aR (fun h=>J ⟨(mn ha).2 h.1,(mn H).2 h.2⟩)];unfold yj;rw [LS ha H J];rfl
 ·rw [alE];show _=some (if a.Kind<=1/\b.Kind<=1 then(orV a b,0)else(zV,2));by_cases J:Tu a/\Tu b
  ·rw [Ru J.1 J.2,bz ⟨(mn ha).1 J.1,(mn H).1 J.2⟩]
  ·rw [aR (fun h=>J ⟨(mn ha).2 h.1,(mn H).2 h.2⟩)];unfold Au;rw [LS ha H J];rfl
def aik{b:ac}(ha:Pl a)(H:Pl b):(NH tag a b).2=0->Pl (NH tag a b).1:=by
 unfold NH;split
 ·split
  ·intro _;exact .z
  ·split
   ·intro _;exact .i _ (afV tag a.N b.N ha.r64 H.r64).2
   ·intro h;cases h
 ·intro h;cases h
def aeR(tag:Int)(a b:ac):(NH tag a b).2≠0->NH tag a b=(zV,140)\/NH tag a b=(zV,2):=by
 unfold NH;split
 ·split
  ·intro h;exact absurd rfl h
  ·split
   ·intro h;exact absurd rfl h
   ·intro _;exact .inl rfl
 ·intro _;exact .inr rfl
def JU(h:Tu a):Tu (UI a):=by
 unfold UI;apply Zk;have:=Zo h;omega
def QS{b:ac}(h:Tu a)(k:Tu b):Tu (MH a b):=by
 apply Zk;have:=Zo h;have:=Zo k;omega
def ZP{b:ac}(h:Tu a)(k:Tu b):Tu (orV a b):=by
 apply Zk;have:=Zo h;have:=Zo k;omega
def agI(f:Int->Bool)(a b:ac):(Q7 (mM f a b)).2=0->Tu (Q7 (mM f a b)).1:=by
 unfold Q7;split
 ·rename_i h;intro _;exact JU (y9 f a b h)
 ·rename_i h;intro k;exact absurd k h
def acz(f:Int->Bool)(a b:ac):(Q7 (mM f a b)).2≠0->Q7 (mM f a b)=(zV,2):=by
 unfold Q7;split
 ·intro h;exact absurd rfl h
 ·rename_i h;intro _;exact OH f a b h
variable{t:Tr}
def Hy{k:Nat}(h:pk tag=some k)(hk:k≠0){b:ac}(ha:Pl a)(H:Pl b):
  ((IL tag a b).2=0/\Pl (IL tag a b).1)\/IL tag a b=(zV,2)\/(IL tag a b=(zV,140)/\(tag=4\/(12<=tag/\tag<=15))):=by
 have har: ∀t x y,Pl x->Pl y->((NH t x y).2=0/\Pl (NH t x y).1)\/NH t x y=(zV,2)\/NH t x y=(zV,140):=by
  intro t x y V hy;by_cases h0:(NH t x y).2=0
  ·exact .inl ⟨h0,aik V hy h0⟩
  ·rcases aeR t x y h0 with h|h
   ·exact .inr (.inr h)
   ·exact .inr (.inl h)
 have hh: ∀f x y,((mM f x y).2=0/\Pl (mM f x y).1)\/mM f x y=(zV,2):=by
  intro f x y;by_cases h0:(mM f x y).2=0
  ·exact .inl ⟨h0,(y9 f x y h0).pl⟩
  ·exact .inr (OH f x y h0)
 have hn: ∀f x y,((Q7 (mM f x y)).2=0/\Pl (Q7 (mM f x y)).1)\/Q7 (mM f x y)=(zV,2):=by
  intro f x y;by_cases h0:(Q7 (mM f x y)).2=0
  ·exact .inl ⟨h0,(agI f x y h0).pl⟩
  ·exact .inr (acz f x y h0)
 rcases acn h hk with rfl|rfl|rfl|rfl|rfl|rfl|rfl|rfl|rfl|rfl|rfl|rfl|rfl|rfl|rfl|rfl
 ·rcases har 13 (iV 0) a (.i 0 ⟨by decide,by decide⟩) ha with h|h|h
  ·exact .inl h
  ·exact .inr (.inl h)
  ·exact .inr (.inr ⟨h,.inl rfl⟩)
 ·show _\/_\/_;unfold IL;rw [aR (by decide),bz rfl];split
  ·rename_i hk;exact .inl ⟨rfl,(JU ((mn ha).2 hk)).pl⟩
  ·exact .inr (.inl rfl)
 ·exact .inl ⟨rfl,.b _⟩
 ·exact .inl ⟨rfl,.b _⟩
 ·rcases har 12 a b ha H with h|h|h
  ·exact .inl h
  ·exact .inr (.inl h)
  ·exact .inr (.inr ⟨h,by decide⟩)
 ·rcases har 13 a b ha H with h|h|h
  ·exact .inl h
  ·exact .inr (.inl h)
  ·exact .inr (.inr ⟨h,by decide⟩)
 ·rcases har 14 a b ha H with h|h|h
  ·exact .inl h
  ·exact .inr (.inl h)
  ·exact .inr (.inr ⟨h,by decide⟩)
 ·rcases har 15 a b ha H with h|h|h
  ·exact .inl h
  ·exact .inr (.inl h)
  ·exact .inr (.inr ⟨h,by decide⟩)
 ·exact(hh (fun c=>c==0) a b).imp_right .inl
 ·exact(hn (fun c=>c==0) a b).imp_right .inl
 ·exact(hh (fun c=>decide (c<0)) a b).imp_right .inl
 ·exact(hn (fun c=>decide (c<0)) b a).imp_right .inl
 ·exact(hh (fun c=>decide (c<0)) b a).imp_right .inl
 ·exact(hn (fun c=>decide (c<0)) a b).imp_right .inl
 ·show _\/_\/_;rw [show IL 22 a b=if a.Kind<=1/\b.Kind<=1 then(MH a b,0)else(zV,2)from rfl];split
  ·rename_i h;exact .inl ⟨rfl,(QS ((mn ha).2 h.1) ((mn H).2 h.2)).pl⟩
  ·exact .inr (.inl rfl)
 ·show _\/_\/_;rw [show IL 23 a b=if a.Kind<=1/\b.Kind<=1 then(orV a b,0)else(zV,2)from rfl];split
  ·rename_i h;exact .inl ⟨rfl,(ZP ((mn ha).2 h.1) ((mn H).2 h.2)).pl⟩
  ·exact .inr (.inl rfl)
def dz(tag:Int)(a b:ac):ac×Int:=if(IL tag a b).2=0 then IL tag a b else(zV,if(IL tag a b).2=140 then 140 else 201)
def Jj(q:ac×Int)(f:ac->ac×Int):ac×Int:=if q.2=0 then f q.1 else q
def ev(r:List ac):Tr->ac×Int
 | .lf n=>if n.Tag=1 then(n.Value,0)else((r[n.X'.toNat]?).getD zV,0)
 | .un n a=>Jj (ev r a) fun x=>dz n.Tag x x
 | .bi n a b=>Jj (ev r a) fun x=>Jj (ev r b) fun y=>dz n.Tag x y
def Cf:Tr->Prop
 | .lf n=>r64 n.Value.N
 | .un _ a=>Cf a
 | .bi _ a b=>Cf a/\Cf b
def EO(r:List ac):Tr->Prop
 | .lf n=>n.Tag=2->n.X'.toNat<r.length/\ ∃v,r[n.X'.toNat]? =some v/\Pl v
 | .un _ a=>EO r a
 | .bi _ a b=>EO r a/\EO r b
def C6{k:Nat}(h:pk tag=some k)(hk:k≠0){b:ac}(ha:Pl a)(H:Pl b):
  ((dz tag a b).2=0/\Pl (dz tag a b).1/\dz tag a b=IL tag a b)\/(dz tag a b=(zV,201)/\IL tag a b=(zV,2))\/(dz tag a b=(zV,140)/\IL tag a b=(zV,140)/\(tag=4\/(12<=tag/\tag<=15))):=by
 unfold dz;rcases Hy h hk ha H with⟨I,M⟩|I|⟨I,M⟩
 ·rw [bz I];exact .inl ⟨I,M,rfl⟩
 ·rw [I];exact .inr (.inl ⟨rfl,rfl⟩)
 ·rw [I];exact .inr (.inr ⟨rfl,rfl,M⟩)
def GR(r:List ac)(n:av)(a:Tr):ev r (.un n a)=Jj (ev r a) fun x=>dz n.Tag x x:=rfl
def C4(r:List ac)(n:av)(a b:Tr):ev r (.bi n a b)=Jj (ev r a) fun x=>Jj (ev r b) fun y=>dz n.Tag x y:=rfl
def sS{q:ac×Int}{f:ac->ac×Int}(h:q.2=0):Jj q f=f q.1:=bz h
def mI{q:ac×Int}{f:ac->ac×Int}(h:q.2≠0):Jj q f=q:=aR h
def tX(r:List ac)(t:Tr):t.wf->Cf t->EO r t->((ev r t).2=0/\Pl (ev r t).1)\/ev r t=(zV,201)\/ev r t=(zV,140):=by
 induction t with
 |lf n=>
  intro⟨I,M,_,_⟩ hr hc;unfold ev;split
  ·rename_i J;exact .inl ⟨rfl,Lw (ajq M J) hr⟩
  ·rename_i J;have ht2:n.Tag=2:=(ZJ I).resolve_left J;obtain⟨_,v,hv,hp⟩:=hc ht2;rw [hv];exact .inl ⟨rfl,hp⟩
 |un n a ih=>
  intro⟨⟨I,_,_,_⟩,ha⟩ hr hc;rw [GR];rcases ih ha hr hc with⟨M,h3⟩|M|M
  ·rw [sS M];rcases C6 I (by decide) h3 h3 with⟨h4,h5,_⟩|⟨h4,_⟩|⟨h4,_⟩
   ·exact .inl ⟨h4,h5⟩
   ·exact .inr (.inl h4)
   ·exact .inr (.inr h4)
  ·rw [M,mI (by decide)];exact .inr (.inl rfl)
  ·rw [M,mI (by decide)];exact .inr (.inr rfl)
 |bi n a b iha ihb=>
  intro⟨⟨I,_,_,_⟩,ha,H⟩ ⟨hra,hrb⟩ ⟨hca,hcb⟩;rw [C4];rcases iha ha hra hca with⟨M,h3⟩|M|M
  ·rw [sS M];rcases ihb H hrb hcb with⟨k2,k3⟩|k2|k2
   ·rw [sS k2];rcases C6 I (by decide) h3 k3 with⟨h4,h5,_⟩|⟨h4,_⟩|⟨h4,_⟩
    ·exact .inl ⟨h4,h5⟩
    ·exact .inr (.inl h4)
    ·exact .inr (.inr h4)
   ·rw [k2,mI (by decide)];exact .inr (.inl rfl)
   ·rw [k2,mI (by decide)];exact .inr (.inr rfl)
  ·rw [M,mI (by decide)];exact .inr (.inl rfl)
  ·rw [M,mI (by decide)];exact .inr (.inr rfl)
variable{l:List cK}
def PQ(stack l:List ac)(h:stack.length+l.length<=100000):oR (stack++l) (l.length:Int)=some (l,stack):=by
 unfold oR jg;have e:i64.wrap (((stack++l).length:Int)-(l.length:Int))=(stack.length:Int):=by
  rw [lj,cB (by omega) (by omega)];omega
 rw [e,jD stack.length (stack++l).length rfl rfl (by simp) (kG _)];simp only [bw,DZ,Pp (kG _),Re,kW];rw [cF (by simp;omega)];simp only [bw,kW];rw [jD (i:=0) 0 stack.length rfl rfl (nh _) (by simp)];simp
def Dv(stack:List ac){b:Int}(h:b≠0):jK b stack=some (zV,b):=by
 unfold jK;rw [bz (by simpa using h)];rfl
def Ph(r:List ac)(n:av){k:Nat}(h:pk n.Tag=some k)(hk:k≠0){b:ac}(ha:Pl a)(H:Pl b){l:List ac}(h0:cO l 0=some a)(I:cO l (i64.wrap ((l.length:Int)-1))=some b):
  lY r C7 n l=some ((IL n.Tag a b).1,(dz n.Tag a b).2):=by
 have hn:=acn h hk;unfold lY;rw [aR (by simp;omega),aR (by simp;omega),h0];simp only [bw];rw [I];simp only [bw];have:=ah0 h hk ha H;unfold dzF at this;have e0:((m5 C7 n.Tag).bind fun y=>y a b)=some (IL n.Tag a b):=by rw [<-this];cases m5 C7 n.Tag<;>rfl
 first|rw [this]|rw [e0]
 simp only [bw];unfold vL;rcases C6 h hk ha H with⟨M,_,h4⟩|⟨M,h4⟩|⟨M,h4,_⟩
 ·rw [h4]at M;rw [h4,M];rfl
 ·rw [M,h4];rfl
 ·rw [M,h4];rfl
def Uw(r:List ac)(t:Tr):t.wf->Cf t->EO r t-> ∀(s:Nat) (rest:List av) (stack:List ac),stack.length+t.size<=50000->
  fz (lY r C7) (t.flat s++rest) 0 stack=if(ev r t).2=0 then fz (lY r C7) rest 0 (stack++[(ev r t).1])else some (zV,(ev r t).2):=by
 induction t with
 |lf n=>
  intro⟨I,M,h3,h4⟩ hr hc s rest stack hl;simp only [Tr.flat,Tr.size,B7,kW]at hl ⊢;rw [fz];have e1:(eY n (-1) (-1)).Tag=n.Tag:=rfl;rw [e1,mT I];have h0:=PQ stack [] (by simp;omega);simp only [vb,ug]at h0;simp only [bw];rw [h0];simp only [bw];have hv:lY r C7 (eY n (-1) (-1)) []=some (ev r (.lf n)):=by
   unfold lY ev;simp only [e1];rcases ZJ I with J|J
   ·rw [bz (by simp [J]),bz J];rfl
   ·rw [aR (by simp [J]),bz (by simp [J]),aR (by simp [J])];have H:=Mz M J;obtain⟨hm,v,hv,_⟩:=hc J;have e2:(eY n (-1) (-1)).X'=n.X':=rfl;rw [e2,mE n.X'.toNat (by omega),hv];rfl
  have e0:(ev r (.lf n)).2=0:=by unfold ev;split<;>rfl
  rw [hv,bz e0];simp only [bw,e0];rw [aR (by simp),cF (by simp;omega)];rfl
 |un n a ih=>
  intro⟨⟨I,M,h3,h4⟩,ha⟩ hr hc s rest stack hl;simp only [Tr.flat,Tr.size,mj]at hl ⊢;rw [GR,ih ha hr hc s _ stack (by omega)];by_cases V:(ev r a).2=0
  ·have hp:Pl (ev r a).1:=by
    rcases tX r a ha hr hc with⟨_,h⟩|h|h
    ·exact h
    ·rw [h]at V;cases V
    ·rw [h]at V;cases V
   rw [bz V,sS V];generalize (ev r a).1=x at hp;simp only [B7,kW];rw [fz];have e1:(eY n (((s+a.size:Nat):Int)-1) (-1)).Tag=n.Tag:=rfl;rw [e1,mT I];have h0:=PQ stack [x] (by simp;omega);simp only [bw];have e0:(([x]:List ac).length:Int)=((1:Nat):Int):=rfl;rw [<-e0,h0];simp only [bw];rw [Ph r (eY n (((s+a.size:Nat):Int)-1) (-1)) (k:=1) I (by decide) hp hp rfl rfl];simp only [bw,e1];rcases C6 I (by decide) hp hp with⟨h5,_,h6⟩|⟨h5,_⟩|⟨h5,_⟩
   ·rw [aR (by simp [h5]),bz h5,cF (by simp;omega),h6];rfl
   ·rw [h5,bz (by decide),Dv _ (by decide),aR (by decide)]
   ·rw [h5,bz (by decide),Dv _ (by decide),aR (by decide)]
  ·rw [aR V,mI V,aR V]
 |bi n a b iha ihb=>
  intro⟨⟨I,M,h3,h4⟩,ha,H⟩ ⟨hra,hrb⟩ ⟨hca,hcb⟩ s rest stack hl;simp only [Tr.flat,Tr.size,mj]at hl ⊢;rw [C4,iha ha hra hca s _ stack (by omega)];by_cases V:(ev r a).2=0
  ·have hp:Pl (ev r a).1:=by
    rcases tX r a ha hra hca with⟨_,h⟩|h|h
    ·exact h
    ·rw [h]at V;cases V
    ·rw [h]at V;cases V
   rw [bz V,sS V];generalize (ev r a).1=x at hp;rw [ihb H hrb hcb (s+a.size) _ (stack++[x]) (by have:=a.size_pos;simp;omega)];by_cases hy:(ev r b).2=0
   ·have hq:Pl (ev r b).1:=by
     rcases tX r b H hrb hcb with⟨_,h⟩|h|h
     ·exact h
     ·rw [h]at hy;cases hy
     ·rw [h]at hy;cases hy
    rw [bz hy,sS hy];generalize (ev r b).1=y at hq;have hap:=a.size_pos;simp only [B7,kW];rw [fz];have e1:(eY n (((s+a.size:Nat):Int)-1) (((s+a.size+b.size:Nat):Int)-1)).Tag=n.Tag:=rfl;rw [e1,mT I];have h0:=PQ stack [x,y] (by simp;omega);simp only [bw];have e0:(([x,y]:List ac).length:Int)=((2:Nat):Int):=rfl;have e9:stack++[x]++[y]=stack++[x,y]:=by simp
    rw [<-e0,e9,h0];simp only [bw];rw [Ph r (eY n (((s+a.size:Nat):Int)-1) (((s+a.size+b.size:Nat):Int)-1)) (k:=2) I (by decide) hp hq rfl rfl];simp only [bw,e1];rcases C6 I (by decide) hp hq with⟨h5,_,h6⟩|⟨h5,_⟩|⟨h5,_⟩
    ·rw [aR (by simp [h5]),bz h5,cF (by simp;omega),h6];rfl
    ·rw [h5,bz (by decide),Dv _ (by decide),aR (by decide)]
    ·rw [h5,bz (by decide),Dv _ (by decide),aR (by decide)]
   ·rw [aR hy,mI hy,aR hy]
  ·rw [aR V,mI V,aR V]
def H6(r:List ac)(c:Int):Bool:=decide (c<(r.length:Int))&&ss ((r[c.toNat]?).getD zV)
def ze(r:List ac)(ns:List av):Bool:=ns.all fun n=> !(n.Tag==2)||H6 r n.X'
def Nt(ns:List av):Prop:= ∀n∈ns,r64 n.Value.N
def RT(r:List ac):Prop:= ∀v∈r,r64 v.N
def YK(hr:RT r){c:Int}(h0:0<=c)(h:H6 r c=true):c.toNat<r.length/\ ∃v,r[c.toNat]? =some v/\Pl v:=by
 unfold H6 at h;rw [iX,nE]at h;have hlt:c.toNat<r.length:=by omega
 refine⟨hlt,r[c.toNat],qg hlt,?_⟩;have M:=h.2;rw [qg hlt]at M;exact Lw M (hr _ (A5 hlt))
def BO(hr:RT r)(t:Tr):t.wf-> ∀s,ze r (t.flat s)=true->EO r t:=by
 induction t with
 |lf n=>
  intro⟨_,M,_,_⟩ s h J;simp only [ze,Tr.flat,xr,FV,Cj]at h;have e1:(eY n (-1) (-1)).Tag=n.Tag:=rfl;have e2:(eY n (-1) (-1)).X'=n.X':=rfl;rw [e1,e2,J]at h;exact YK hr (Mz M J).1 (by simpa using h)
 |un n a ih=>
  intro⟨_,ha⟩ s h;simp only [ze,Tr.flat,As,iX]at h;exact ih ha s h.1
 |bi n a b iha ihb=>
  intro⟨_,ha,H⟩ s h;simp only [ze,Tr.flat,As,iX]at h;exact⟨iha ha s h.1.1,ihb H _ h.1.2⟩
def Gn(t:Tr): ∀s,Nt (t.flat s)->Cf t:=by
 induction t with
 |lf n=>intro s h;exact h (eY n (-1) (-1)) (by simp [Tr.flat])
 |un n a ih=>intro s h;exact ih s fun m hm=>h m (by simp [Tr.flat,hm])
 |bi n a b iha ihb=>intro s h;exact⟨iha s fun m hm=>h m (by simp [Tr.flat,hm]),ihb _ fun m hm=>h m (by simp only [Tr.flat,qR];exact .inl (.inr hm))⟩
def vm(hw:t.wf): ∀s {n:av},n∈t.flat s->n.Tag=2->0<=n.X'/\n.X'<16:=by
 induction t with
 |lf m=>
  intro s n hn J;simp only [Tr.flat,mf]at hn;subst hn;exact Mz hw.2.1 J
 |un m a ih=>
  intro s n hn J;simp only [Tr.flat,qR,mf]at hn;rcases hn with hn|rfl
  ·exact ih hw.2 s hn J
  ·exact absurd (pk2 hw.1.1 J) (by decide)
 |bi m a b iha ihb=>
  intro s n hn J;simp only [Tr.flat,qR,mf]at hn;rcases hn with(hn|hn)|rfl
  ·exact iha hw.2.1 s hn J
  ·exact ihb hw.2.2 _ hn J
  ·exact absurd (pk2 hw.1.1 J) (by decide)
def BJ(r:List ac)(ns:List av):ac×Int:=match ll ns with
 |none=>(zV,200)
 |some t=>if ze r ns then ev r t else(zV,2)
def MS(e:au)(r:List ac)(x:ac): ∀cs:List Int,(∀c∈cs,0<=c)->tk e r cs x=if cs.all (H6 r)then lN e (lY r C7)else some (zV,2)
 |[],_=>by
  unfold tk;rw [QF];simp only [bw];cases lN e (lY r C7)<;>rfl
 |c::cs,hc=>by
  unfold tk;rw [MS e r x cs fun c hm=>hc c (ma _ hm)];have h0:=hc c (md ..);by_cases h:(r.length:Int)<=c
  ·have H:H6 r c=false:=by unfold H6;rw [Bool.and_eq_false_iff];left;simp;omega
   simp [h,H,zV]
  ·have hlt:c.toNat<r.length:=by omega
   have e1:cO r c=some r[c.toNat]:=by rw [mE c.toNat (by omega),qg hlt]
   have H:H6 r c=ss r[c.toNat]:=by
    unfold H6;rw [qg hlt];have:decide (c<(r.length:Int))=true:=by simp;omega
    rw [this];rfl
   rw [bz (by simpa using h),e1];simp only [bw,yI];rw [xr,H];cases ss r[c.toNat]<;>simp [zV]
def R7(r:List ac)(hw:t.wf)(hr:Cf t)(hc:EO r t)(hs:t.size<=1000):lN ⟨t.flat 0⟩ (lY r C7)=some (ev r t):=by
 unfold lN;have h:=Uw r t hw hr hc 0 [] [] (by simp;omega);rw [vb]at h;rw [h];rcases tX r t hw hr hc with⟨M,h3⟩|M|M
 ·rw [bz M];unfold fz jK;rw [aR (by simp)];simp only [kW];rw [show cO [(ev r t).1] 0=some (ev r t).1 from rfl];simp only [bw];congr 1;exact Prod.ext rfl M.symm
 ·rw [M,aR (by decide)]
 ·rw [M,aR (by decide)]
def BH(e:au)(r:List ac)(hl:e.j'.length<=50000)(he:Nt e.j')(hr:RT r):yA e r=some (BJ r e.j'):=by
 unfold yA BJ;rw [pr e (by omega)]
 cases J:ll e.j' with
 |none=>
  have:gX e.j'=false:=by unfold gX;rw [J];rfl
  rw [this];rfl
 |some t=>
  have hri:gX e.j'=true:=by unfold gX;rw [J];rfl
  obtain⟨hw,hN,hs⟩:=kH J;rw [hri];simp only [hM,bw];rw [aR (by decide)];obtain⟨cs,I,M⟩:=BI e hri;rw [I];simp only [bw];have hcnt: ∀n∈e.j',n.Tag=2->0<=n.X':=fun n hn htag=>by
   rw [hN]at hn;exact(vm hw 0 hn htag).1
  rw [MS e r _ cs fun c hc=>by obtain⟨n,hn,htag,rfl⟩:=(M c).1 hc;exact hcnt n hn htag];have hcols:cs.all (H6 r)=ze r e.j':=by
   rw [ES,mN];unfold ze;rw [mN];constructor
   ·intro h n hn;by_cases htag:n.Tag=2
    ·rw [h n.X' ((M _).2 ⟨n,hn,htag,rfl⟩)];simp
    ·simp [htag]
   ·intro h c hc;obtain⟨n,hn,htag,rfl⟩:=(M c).1 hc;have:=h n hn;simpa [htag] using this
  rw [hcols]
  cases H:ze r e.j' with
  |false=>rfl
  |true=>
   simp only [hM];have e9:e=⟨t.flat 0⟩:=by cases e;simp only at hN;rw [hN]
   rw [hN]at he H;rw [e9];exact R7 r hw (Gn t 0 he) (BO hr t hw 0 H) hs
def BN(l:List α)(m:Nat)(hm:m<=100000):((df l 0 (min (l.length:Int) (m:Int))).bind fun y=>(app ([]:List α) y).bind fun x=>some x)=some (l.take m):=by
 rw [jD (i:=0) 0 (min l.length m) rfl (by omega) (nh _) (Nat.min_le_left _ _)];simp only [bw,xu];rw [cF (by simp;omega)];simp only [bw,kW];congr 1;rcases Nat.le_total l.length m with h|h
 ·rw [DY h,DZ,rO h]
 ·rw [Nat.min_eq_right h]
def aeG(s:Fy):Fy:=s.take 41
def YF(n:av):av:={n with Value:={n.Value with S:=aeG n.Value.S}}
def XY(s:Fy):df s 0 (min (s.length:Int) (41:Int))=some (aeG s):=by
 rw [jD (i:=0) 0 (min s.length 41) rfl (by omega) (nh _) (Nat.min_le_left _ _),xu];congr 1;unfold aeG;rcases Nat.le_total s.length 41 with h|h
 ·rw [DY h,DZ,rO h]
 ·rw [Nat.min_eq_right h]
def PH(f:α->α)(xs:List α)(i:Nat)(h:i<xs.length):((xs.take i).map f++xs.drop i).set i (f xs[i])=(xs.take (i+1)).map f++xs.drop (i+1):=by
 rw [List.set_append_right _ _ (by simp;omega)];have e:i-((xs.take i).map f).length=0:=by simp;omega
 rw [e,zX h,List.set_cons_zero,TR h,Cn];simp
def Qh(f:α->α)(xs:List α)(i:Nat)(h:i<xs.length):cO ((xs.take i).map f++xs.drop i) (i:Int)=some xs[i]:=by
 rw [cG,we (by simp;omega)];have e:i-((xs.take i).map f).length=0:=by simp;omega
 rw [e,A7];simp [h]
def E9(ns:List av)(m:Nat):List av:=(ns.take m).map YF
def E0(ns:List av)(m:Nat):(E9 ns m).length<=m:=by simp [E9];omega
def Hp{ns:List av}(h:Nt ns)(m:Nat):Nt (E9 ns m):=by
 intro n hn;obtain⟨k,hk,rfl⟩:=rL.1 hn;exact h k (F3 hk)
def QG(e:au)(h:e.j'.length<=50000):th e=some (gX e.j'&& !(e.j'.any Rb)):=by
 unfold th;rw [pr e (by omega)]
 cases gX e.j' with
 |false=>rfl
 |true=>
  simp only [hM,bw];rw [bz (by decide)];have key: ∀(l:List av),fX l xd=some (l.any Rb):=by
   intro l;unfold fX jS;have M: ∀(l:List av) (i:Nat),∃z:Int,eH xd l i=some z/\(0<=z↔l.any Rb=true):=by
    intro l
    induction l with
    |nil=>intro i;exact⟨-1,rfl,by simp⟩
    |cons n l ih=>
     intro i;unfold eH;have e1:xd n=some (Rb n):=rfl;rw [e1];simp only [bw]
     cases H:Rb n with
     |true=>exact⟨(i:Int),by simp,by simp [H]⟩
     |false=>
      obtain⟨z,h3,h4⟩:=ih (i+1);exact⟨z,by simpa using h3,by simpa [H] using h4⟩
   obtain⟨z,h3,h4⟩:=M l 0;rw [h3];simp only [bw];congr 1;rw [ES,<-h4];simp
  rw [key];rfl
variable{ka kb:Int}
def Sv(J:tag=4\/tag=12\/tag=13\/tag=14\/tag=15):kn tag ka kb=(2,(ka==2||ka==0)&&(kb==2||kb==0)):=by
 rcases J with rfl|rfl|rfl|rfl|rfl<;>(unfold kn mw ly;cases (ka==2||ka==0)<;>cases (kb==2||kb==0)<;>rfl)
def aae(J:tag=5\/tag=22\/tag=23):kn tag ka kb=(1,(ka==1||ka==0)&&(kb==1||kb==0)):=by
 rcases J with rfl|rfl|rfl<;>(unfold kn mw ly;cases (ka==1||ka==0)<;>cases (kb==1||kb==0)<;>rfl)
def vW(v:ac)(k:Int):Prop:=v.Kind=k\/v.Kind=0
def RV{k:Nat}(h:pk tag=some k)(hk:k≠0){b:ac}(ha:Pl a)(H:Pl b)(I:vW a ka)(M:k=1/\b=a/\kb=0\/k=2/\vW b kb)(hn:(kn tag ka kb).2=true):
  ((IL tag a b).2=0/\vW (IL tag a b).1 (kn tag ka kb).1)\/IL tag a b=(zV,140):=by
 have har: ∀t x y,vW x 2->vW y 2->((NH t x y).2=0/\vW (NH t x y).1 2)\/NH t x y=(zV,140):=by
  intro t x y V hy;unfold NH;rw [bz ⟨V.symm,hy.symm⟩];split
  ·exact .inl ⟨rfl,.inr rfl⟩
  ·split
   ·exact .inl ⟨rfl,.inl rfl⟩
   ·exact .inr rfl
 have hbv: ∀x,(bV x).Kind=1:=fun _=>rfl;have htv: ∀{v},Tu v->vW v 1:=fun h=>by cases h;exact .inr rfl;exact .inl rfl
 have hh: ∀f,(a.Kind=b.Kind\/a.Kind=0\/b.Kind=0)->(mM f a b).2=0/\(mM f b a).2=0:=by
  intro f V;unfold mM;constructor
  ·split
   ·rfl
   ·rw [bz (by rename_i h9;simp only [not_or]at h9;rcases V with h|h|h;exact h;exact absurd h h9.1;exact absurd h h9.2)]
  ·split
   ·rfl
   ·rw [bz (by rename_i h9;simp only [not_or]at h9;rcases V with h|h|h;exact h.symm;exact absurd h h9.2;exact absurd h h9.1)]
 have hkk:k=2->(ka=kb\/ka=0\/kb=0)->(a.Kind=b.Kind\/a.Kind=0\/b.Kind=0):=by
  intro h9 h;rcases M with⟨h5,_⟩|⟨_,M⟩
  ·omega
  unfold vW at I M;rcases h with h|h|h<;>rcases I with I|I<;>rcases M with M|M<;>simp_all
 have hno: ∀f x y,(mM f x y).2=0->(Q7 (mM f x y)).2=0/\vW (Q7 (mM f x y)).1 1:=by
  intro f x y h9;unfold Q7;rw [bz h9];exact⟨rfl,htv (JU (y9 f x y h9))⟩
 have h3:k=2->vW b kb:=by intro h9;rcases M with⟨h5,_⟩|⟨_,M⟩;omega;exact M
 have h10: ∀{x:ac} {kx:Int},vW x kx->kx=2\/kx=0->vW x 2:=by
  intro x kx h h';unfold vW at*;omega
 have h11: ∀{x:ac} {kx:Int},vW x kx->kx=1\/kx=0->x.Kind<=1:=by
  intro x kx h h';unfold vW at*;omega
 rcases acn h hk with rfl|rfl|rfl|rfl|rfl|rfl|rfl|rfl|rfl|rfl|rfl|rfl|rfl|rfl|rfl|rfl
 ·rw [Sv (by decide)]at hn ⊢;have V:ka=2\/ka=0:=by simp at hn;exact hn.1
  have:=har 13 (iV 0) a (.inl rfl) (h10 I V);exact this
 ·rw [aae (by decide)]at hn ⊢;have V:ka=1\/ka=0:=by simp at hn;exact hn.1
  have e:IL 5 a b=(UI a,0):=by
   show(if a.Kind<=1 then(UI a,0)else(zV,2))=_;rw [bz (h11 I V)]
  rw [e];exact .inl ⟨rfl,htv (JU ((mn ha).2 (h11 I V)))⟩
 ·exact .inl ⟨rfl,.inl rfl⟩
 ·exact .inl ⟨rfl,.inl rfl⟩
 all_goals have hk2:k=2:=by simp [pk]at h;omega
 all_goals have hb3:=h3 hk2
 ·rw [Sv (by decide)]at hn ⊢;have V:(ka=2\/ka=0)/\(kb=2\/kb=0):=by simp at hn;exact hn
  exact har 12 a b (h10 I V.1) (h10 hb3 V.2)
 ·rw [Sv (by decide)]at hn ⊢;have V:(ka=2\/ka=0)/\(kb=2\/kb=0):=by simp at hn;exact hn
  exact har 13 a b (h10 I V.1) (h10 hb3 V.2)
 ·rw [Sv (by decide)]at hn ⊢;have V:(ka=2\/ka=0)/\(kb=2\/kb=0):=by simp at hn;exact hn
  exact har 14 a b (h10 I V.1) (h10 hb3 V.2)
 ·rw [Sv (by decide)]at hn ⊢;have V:(ka=2\/ka=0)/\(kb=2\/kb=0):=by simp at hn;exact hn
  exact har 15 a b (h10 I V.1) (h10 hb3 V.2)
 ·have V:ka=kb\/ka=0\/kb=0:=by simp [kn,mw,ly]at hn;omega
  have:=(hh (fun c=>c==0) (hkk hk2 V)).1;exact .inl ⟨this,htv (y9 _ a b this)⟩
 ·have V:ka=kb\/ka=0\/kb=0:=by simp [kn,mw,ly]at hn;omega
  exact .inl (hno (fun c=>c==0) a b (hh _ (hkk hk2 V)).1)
 ·have V:ka=kb\/ka=0\/kb=0:=by simp [kn,mw,ly]at hn;omega
  have:=(hh (fun c=>decide (c<0)) (hkk hk2 V)).1;exact .inl ⟨this,htv (y9 _ a b this)⟩
 ·have V:ka=kb\/ka=0\/kb=0:=by simp [kn,mw,ly]at hn;omega
  exact .inl (hno (fun c=>decide (c<0)) b a (hh _ (hkk hk2 V)).2)
 ·have V:ka=kb\/ka=0\/kb=0:=by simp [kn,mw,ly]at hn;omega
  have:=(hh (fun c=>decide (c<0)) (hkk hk2 V)).2;exact .inl ⟨this,htv (y9 _ b a this)⟩
 ·have V:ka=kb\/ka=0\/kb=0:=by simp [kn,mw,ly]at hn;omega
  exact .inl (hno (fun c=>decide (c<0)) a b (hh _ (hkk hk2 V)).1)
 ·rw [aae (by decide)]at hn ⊢;have V:(ka=1\/ka=0)/\(kb=1\/kb=0):=by simp at hn;exact hn
  have e:IL 22 a b=(MH a b,0):=by
   show(if a.Kind<=1/\b.Kind<=1 then(MH a b,0)else(zV,2))=_;rw [bz ⟨h11 I V.1,h11 hb3 V.2⟩]
  rw [e];exact .inl ⟨rfl,htv (QS ((mn ha).2 (h11 I V.1)) ((mn H).2 (h11 hb3 V.2)))⟩
 ·rw [aae (by decide)]at hn ⊢;have V:(ka=1\/ka=0)/\(kb=1\/kb=0):=by simp at hn;exact hn
  have e:IL 23 a b=(orV a b,0):=by
   show(if a.Kind<=1/\b.Kind<=1 then(orV a b,0)else(zV,2))=_;rw [bz ⟨h11 I V.1,h11 hb3 V.2⟩]
  rw [e];exact .inl ⟨rfl,htv (ZP ((mn ha).2 (h11 I V.1)) ((mn H).2 (h11 hb3 V.2)))⟩
def kindR(v':List Int)(r:List ac):Prop:= ∀(j:Nat) (k:Int),v'[j]? =some k-> ∃v,r[j]? =some v/\Pl v/\vW v k
def ai2{v':List Int}(hk4: ∀k∈v',k4 k)(hr:kindR v' r)(t:Tr):t.wf->Cf t->EO r t->uS v'.length t-> ∀{k},kd v' t=some k->
  ((ev r t).2=0/\vW (ev r t).1 k)\/(ev r t=(zV,140)/\ ∀s,(t.flat s).any Rb=true):=by
 induction t with
 |lf n=>
  intro⟨I,M,_,_⟩ hg hc hcT k hk;unfold kd at hk;unfold ev;split at hk
  ·rename_i J;rw [bz J];cases hk;exact .inl ⟨rfl,.inl rfl⟩
  ·rename_i J;have ht2:n.Tag=2:=(ZJ I).resolve_left J;have hlt:=hcT ht2;have h0:=(Mz M ht2).1;rw [aR J];have hgk:v'[n.X'.toNat]? =some k:=by
    rw [qg (by omega)]at hk ⊢;simpa using hk
   obtain⟨v,h3,h4,h5⟩:=hr _ _ hgk;rw [h3];exact .inl ⟨rfl,h5⟩
 |un n a ih=>
  intro⟨⟨I,_,_,_⟩,ha⟩ hg hc hcT k hk;rw [SL]at hk
  cases V:kd v' a with
  |none=>rw [V]at hk;cases hk
  |some x=>
   rw [V,bw]at hk;split at hk
   ·rename_i hkn;cases hk;rw [GR];rcases ih ha hg hc hcT V with⟨M,h3⟩|⟨M,h3⟩
    ·rw [sS M];have hp:Pl (ev r a).1:=by
      rcases tX r a ha hg hc with⟨_,h⟩|h|h
      ·exact h
      ·rw [h]at M;cases M
      ·rw [h]at M;cases M
     unfold dz;rcases RV I (by decide) hp hp h3 (.inl ⟨rfl,rfl,rfl⟩) hkn with⟨h4,h5⟩|h4
     ·rw [bz h4];exact .inl ⟨h4,h5⟩
     ·rcases Hy I (by decide) hp hp with⟨h6,_⟩|h6|⟨_,h6⟩
      ·rw [h4]at h6;cases h6
      ·rw [h4]at h6;cases h6
      ·rw [h4];exact .inr ⟨rfl,fun s=>by simp only [Tr.flat,Km,BW,List.any_nil,Bool.or_false,xv];right;simp only [Rb];have:(eY n (((s+a.size:Nat):Int)-1) (-1)).Tag=n.Tag:=rfl;rw [this];simp;omega⟩
    ·rw [M,mI (by decide)];exact .inr ⟨rfl,fun s=>by simp only [Tr.flat,Km,xv];exact .inl (h3 s)⟩
   ·cases hk
 |bi n a b iha ihb=>
  intro⟨⟨I,_,_,_⟩,ha,H⟩ ⟨hga,hgb⟩ ⟨hca,hcb⟩ ⟨hTa,hTb⟩ k hk;rw [OA]at hk
  cases V:kd v' a with
  |none=>rw [V]at hk;cases hk
  |some x=>
   cases hy:kd v' b with
   |none=>rw [V,hy]at hk;cases hk
   |some y=>
    rw [V,hy]at hk;simp only [bw]at hk;split at hk
    ·rename_i hkn;cases hk;rw [C4];rcases iha ha hga hca hTa V with⟨M,h3⟩|⟨M,h3⟩
     ·rw [sS M];have hp:Pl (ev r a).1:=by
       rcases tX r a ha hga hca with⟨_,h⟩|h|h
       ·exact h
       ·rw [h]at M;cases M
       ·rw [h]at M;cases M
      rcases ihb H hgb hcb hTb hy with⟨q2,q3⟩|⟨q2,q3⟩
      ·rw [sS q2];have hq:Pl (ev r b).1:=by
        rcases tX r b H hgb hcb with⟨_,h⟩|h|h
        ·exact h
        ·rw [h]at q2;cases q2
        ·rw [h]at q2;cases q2
       unfold dz;rcases RV I (by decide) hp hq h3 (.inr ⟨rfl,q3⟩) hkn with⟨h4,h5⟩|h4
       ·rw [bz h4];exact .inl ⟨h4,h5⟩
       ·rcases Hy I (by decide) hp hq with⟨h6,_⟩|h6|⟨_,h6⟩
        ·rw [h4]at h6;cases h6
        ·rw [h4]at h6;cases h6
        ·rw [h4];exact .inr ⟨rfl,fun s=>by simp only [Tr.flat,Km,BW,List.any_nil,Bool.or_false,xv];right;simp only [Rb];have:(eY n (((s+a.size:Nat):Int)-1) (((s+a.size+b.size:Nat):Int)-1)).Tag=n.Tag:=rfl;rw [this];simp;omega⟩
      ·rw [q2,mI (by decide)];exact .inr ⟨rfl,fun s=>by simp only [Tr.flat,Km,xv];exact .inl (.inr (q3 _))⟩
     ·rw [M,mI (by decide)];exact .inr ⟨rfl,fun s=>by simp only [Tr.flat,Km,xv];exact .inl (.inl (h3 s))⟩
    ·cases hk
def aaf{e:au}{v':List Int}(h:(eM e v').2=0): ∃t,ll e.j'=some t/\(∀k∈v',k4 k)/\uA v'.length e.j'=true/\kd v' t=some (eM e v').1:=by
 unfold eM at h ⊢;split at h
 ·rename_i I;rw [bz I];split at h
  ·rename_i M;rw [bz M];split at h
   ·rename_i h3;rw [bz h3];unfold gX at I
    cases J:ll e.j' with
    |none=>rw [J]at I;cases I
    |some t=>
     rw [J]at h;simp only [bw]at h ⊢
     cases hk:kd v' t with
     |none=>rw [hk]at h;cases h
     |some k=>exact⟨t,rfl,fun k hk=>DB M hk,h3,hk⟩
   ·cases h
  ·cases h
 ·cases h
variable{own:List ac}
def Yq(ns:List av)(hl:ns.length<=1000)(hg:Nt ns)(v':List Int)(h:(eM ⟨ns⟩ v').2=0)(own:List ac)(hr:kindR v' own)(hrg:RT own)(hlen:own.length=v'.length):
  ((BJ own ns).2=0/\Pl (BJ own ns).1/\vW (BJ own ns).1 (eM ⟨ns⟩ v').1)\/((BJ own ns).2=140/\ns.any Rb=true):=by
 obtain⟨t,J,hk4,hcols,hkd⟩:=aaf h;obtain⟨hw,hN,hs⟩:=kH J;have hN:ns=t.flat 0:=hN;have hcT:uS v'.length t:=xj _ t hw 0 (by rw [<-hN];exact hcols);have hcB:ze own ns=true:=by
  unfold ze;rw [mN];intro n hn;by_cases htag:n.Tag=2
  ·have hc:=mN.1 hcols n hn;have h0:=(vm hw 0 (by rw [<-hN];exact hn) htag).1;simp [htag]at hc ⊢;have hlt:n.X'.toNat<v'.length:=by omega
   obtain⟨v,hv,hp,_⟩:=hr n.X'.toNat v'[n.X'.toNat] (qg hlt);unfold H6;rw [hv];have e1:decide (n.X'<(own.length:Int))=true:=by simp;omega
   rw [e1];simpa using hp.plain
  ·simp [htag]
 have hcV:EO own t:=BO hrg t hw 0 (by rw [<-hN];exact hcB);have hgT:=Gn t 0 (by rw [<-hN];exact hg);have hev:BJ own ns=ev own t:=by unfold BJ;rw [J];simp [hcB]
 rw [hev];rcases ai2 hk4 hr t hw hgT hcV hcT hkd with⟨M,h3⟩|⟨M,h3⟩
 ·left;refine⟨M,?_,h3⟩;rcases tX own t hw hgT hcV with⟨_,h⟩|h|h
  ·exact h
  ·rw [h]at M;cases M
  ·rw [h]at M;cases M
 ·right;rw [M];exact⟨rfl,by rw [hN];exact h3 0⟩
def sh(s:Nat)(x:Int):Int:=if 0<=x then x+(s:Int)else x
def Gi(s:Nat)(n:av):av:=eY n (sh s n.L) (sh s n.R)
def bnd(n:av):Prop:=n.L<=1000000/\n.R<=1000000
def aav(t:Tr): ∀s,s+t.size<=1000000-> ∀n∈t.flat s,bnd n:=by
 induction t with
 |lf m=>intro s _ n hn;simp only [Tr.flat,mf]at hn;subst hn;exact⟨by simp [eY],by simp [eY]⟩
 |un m a ih=>
  intro s hs n hn;simp only [Tr.size]at hs;simp only [Tr.flat,qR,mf]at hn;rcases hn with hn|rfl
  ·exact ih s (by omega) n hn
  ·constructor<;>simp only [eY]<;>omega
 |bi m a b iha ihb=>
  intro s hs n hn;simp only [Tr.size]at hs;simp only [Tr.flat,qR,mf]at hn;rcases hn with(hn|hn)|rfl
  ·exact iha s (by omega) n hn
  ·exact ihb _ (by omega) n hn
  ·constructor<;>simp only [eY]<;>omega
def RI(k:Nat)(n:av)(l r:Int):Gi k (eY n l r)=eY n (sh k l) (sh k r):=rfl
def Ud{k:Nat}(h:0<=x):sh k x=x+(k:Int):=bz h
def agz(k:Nat):sh k (-1)= -1:=rfl
def acT(t:Tr)(k:Nat): ∀s,(t.flat s).map (Gi k)=t.flat (s+k):=by
 induction t with
 |lf m=>intro s;rfl
 |un m a ih=>
  intro s;have:=a.size_pos;simp only [Tr.flat,Cn,ih,va,xF,RI,agz];rw [Ud (by omega),show((s+a.size:Nat):Int)-1+(k:Int)=((s+k+a.size:Nat):Int)-1 from by omega]
 |bi m a b iha ihb=>
  intro s;have:=a.size_pos;have:=b.size_pos;simp only [Tr.flat,Cn,iha,ihb,va,xF,RI];rw [Ud (by omega),Ud (by omega),show s+a.size+k=s+k+a.size from by omega,show((s+a.size:Nat):Int)-1+(k:Int)=((s+k+a.size:Nat):Int)-1 from by omega,show((s+a.size+b.size:Nat):Int)-1+(k:Int)=((s+k+a.size+b.size:Nat):Int)-1 from by omega]
def Wc(out:List av)(ho:out.length<=1000000): ∀(ns L':List av),(∀n∈ns,bnd n)->L'.length+ns.length<=1000000->mU out ns L'=some (L'++ns.map (Gi out.length))
 |[],L',_,_=>by simp [mU]
 |n::ns,L',H,hl=>by
  simp only [jo]at hl;obtain⟨I,M⟩:=H n (md ..);have ih:=Wc out ho ns (L'++[Gi out.length n]) (fun m hm=>H m (ma _ hm)) (by simp;omega);have e9:L'++(n::ns).map (Gi out.length)=L'++[Gi out.length n]++ns.map (Gi out.length):=by simp
  rw [e9];unfold mU;have hk2: ∀m,m=Gi out.length n->vI (mU out ns) L' m=some (L'++[Gi out.length n]++ns.map (Gi out.length)):=by
   intro m hm;unfold vI;rw [cF (by simp;omega),hm];exact ih
  by_cases hL:0<=n.L
  ·rw [bz (by simpa using hL)];unfold vJ;rw [cB (n:=n.L+(out.length:Int)) (by omega) (by omega)];by_cases hR:0<=n.R
   ·rw [bz (by simpa using hR)];dsimp only;rw [cB (n:=n.R+(out.length:Int)) (by omega) (by omega)];exact hk2 _ (by simp only [Gi,eY,sh,bz hL,bz hR])
   ·rw [aR (by simpa using hR)];exact hk2 _ (by simp only [Gi,eY,sh,bz hL,aR hR])
  ·rw [aR (by simpa using hL)];unfold vJ;by_cases hR:0<=n.R
   ·rw [bz (by simpa using hR)];rw [cB (n:=n.R+(out.length:Int)) (by omega) (by omega)];exact hk2 _ (by simp only [Gi,eY,sh,aR hL,bz hR])
   ·rw [aR (by simpa using hR)];exact hk2 _ (by simp only [Gi,eY,sh,aR hL,aR hR])
def HN(out:List av)(t:Tr)(h:out.length+t.size<=1000000):DI out ⟨t.flat 0⟩=some (out++t.flat out.length):=by
 unfold DI;rw [Wc out (by omega) _ _ (aav t 0 (by omega)) (by rw [t.flat_len];exact h),acT];simp
def acI(n:av):oj n []=some ⟨(Tr.lf n).flat 0⟩:=by
 unfold oj lG;rw [show cO [(-1:Int),-1] 0=some (-1)from rfl,show cO [(-1:Int),-1] 1=some (-1)from rfl];simp only [bw];rw [cF (by simp)];rfl
def acH(n:av)(a:Tr)(h:a.size<=100000):oj n [⟨a.flat 0⟩]=some ⟨(Tr.un n a).flat 0⟩:=by
 unfold oj lG;rw [HN [] a (by simp;omega)];simp only [bw,kW,ug];rw [show cO [(-1:Int),-1] ((0:Nat):Int)=some (-1)from rfl,a.flat_len,cB (by omega) (by omega)];simp only [bw];unfold lG;rw [show([(-1:Int),-1].set ((0:Nat):Int).toNat ((a.size:Int)-1))=[(a.size:Int)-1,-1]from rfl];rw [show cO [(a.size:Int)-1,-1] 0=some ((a.size:Int)-1)from rfl,show cO [(a.size:Int)-1,-1] 1=some (-1)from rfl];simp only [bw];rw [cF (by simp [a.flat_len];omega)];simp [Tr.flat,eY]
def Wf(n:av)(a b:Tr)(h:a.size+b.size<=100000):oj n [⟨a.flat 0⟩,⟨b.flat 0⟩]=some ⟨(Tr.bi n a b).flat 0⟩:=by
 unfold oj lG;rw [HN [] a (by simp;omega)];simp only [bw,kW,ug];rw [show cO [(-1:Int),-1] ((0:Nat):Int)=some (-1)from rfl,a.flat_len,cB (by omega) (by omega)];simp only [bw];unfold lG;rw [HN (a.flat 0) b (by rw [a.flat_len];omega)];rw [show([(-1:Int),-1].set ((0:Nat):Int).toNat ((a.size:Int)-1))=[(a.size:Int)-1,-1]from rfl];simp only [bw];rw [show cO [(a.size:Int)-1,-1] ((0+1:Nat):Int)=some (-1)from rfl];simp only [bw];rw [lj,a.flat_len,b.flat_len,cB (by omega) (by omega)];unfold lG;rw [show([(a.size:Int)-1,-1].set ((0+1:Nat):Int).toNat (((a.size+b.size:Nat):Int)-1))=[(a.size:Int)-1,((a.size+b.size:Nat):Int)-1]from rfl];rw [show cO [(a.size:Int)-1,((a.size+b.size:Nat):Int)-1] 0=some ((a.size:Int)-1)from rfl,show cO [(a.size:Int)-1,((a.size+b.size:Nat):Int)-1] 1=some (((a.size+b.size:Nat):Int)-1)from rfl];simp only [bw];rw [cF (by simp [a.flat_len,b.flat_len];omega)];simp [Tr.flat,eY]
def cS(t:Tr):au:=⟨t.flat 0⟩
def pt(lt:List Tr):Tr->Tr
 | .lf n=>if n.Tag=2 then(lt[n.X'.toNat]?).getD default else .lf n
 | .un n a=> .un n (pt lt a)
 | .bi n a b=> .bi n (pt lt a) (pt lt b)
def PR(stack l:List au)(h:stack.length+l.length<=100000):o9 (stack++l) (l.length:Int)=some (l,stack):=by
 unfold o9 di;have e:i64.wrap (((stack++l).length:Int)-(l.length:Int))=(stack.length:Int):=by
  rw [lj,cB (by omega) (by omega)];omega
 rw [e,jD stack.length (stack++l).length rfl rfl (by simp) (kG _)];simp only [bw,DZ,Pp (kG _),Re,kW];rw [cF (by simp;omega)];simp only [bw,kW];rw [jD (i:=0) 0 stack.length rfl rfl (nh _) (by simp)];simp
def BQ(l:List av)(h:l.length<=1000000):bY l=some l:=by
 unfold bY;rw [cF (by simp;omega)];simp
def ZH(lt:List Tr)(n:av)(a:Tr):pt lt (.un n a)= .un n (pt lt a):=rfl
def VW(lt:List Tr)(n:av)(a b:Tr):pt lt (.bi n a b)= .bi n (pt lt a) (pt lt b):=rfl
def Ux(lt:List Tr)(hlt: ∀t∈lt,t.size<=1000)(t:Tr):t.wf->uS lt.length t-> ∀(s:Nat) (rest:List av) (stack:List au),stack.length+t.size<=50000->(pt lt t).size<=50000->
  gY (mF (lt.map cS)) (t.flat s++rest) 0 stack=gY (mF (lt.map cS)) rest 0 (stack++[cS (pt lt t)]):=by
 induction t with
 |lf n=>
  intro⟨I,M,h3,h4⟩ hc s rest stack hl hp;simp only [Tr.flat,Tr.size,B7,kW]at hl ⊢
  conv=>lhs;rw [gY]
  have e1:(eY n (-1) (-1)).Tag=n.Tag:=rfl;rw [e1,mT I];have h0:=PR stack [] (by simp;omega);simp only [vb,ug]at h0;simp only [bw];rw [h0];simp only [bw];have hv:mF (lt.map cS) (eY n (-1) (-1)) []=some (cS (pt lt (.lf n)),0):=by
   unfold mF pt;simp only [e1];rcases ZJ I with J|J
   ·rw [aR (by simp [J]),aR (by simp [J]),acI];rfl
   ·rw [bz (by simp [J]),bz J];have H:=Mz M J;have hlt2:n.X'.toNat<lt.length:=by have:=hc J;omega
    have e2:(eY n (-1) (-1)).X'=n.X':=rfl;rw [e2,mE n.X'.toNat (by omega),Co,qg hlt2];simp only [Iq,bw,Option.getD_some];rw [BQ _ (by have:=hlt _ (A5 hlt2);simp only [cS,Tr.flat_len];omega)];rfl
  rw [hv];simp only [bw];rw [aR (by simp),cF (by simp;omega)];rfl
 |un n a ih=>
  intro⟨⟨I,M,h3,h4⟩,ha⟩ hc s rest stack hl hp;rw [ZH]at hp ⊢;simp only [Tr.flat,Tr.size,mj]at hl hp ⊢;rw [ih ha hc s _ stack (by omega) (by omega)];simp only [B7,kW]
  conv=>lhs;rw [gY]
  have e1:(eY n (((s+a.size:Nat):Int)-1) (-1)).Tag=n.Tag:=rfl;rw [e1,mT I];have h0:=PR stack [cS (pt lt a)] (by simp;omega);simp only [bw];have e0:(([cS (pt lt a)]:List au).length:Int)=((1:Nat):Int):=rfl;rw [<-e0,h0];simp only [bw];have hv:mF (lt.map cS) (eY n (((s+a.size:Nat):Int)-1) (-1)) [cS (pt lt a)]=some (cS (.un n (pt lt a)),0):=by
   unfold mF;rw [aR (by rw [e1];intro h;have:=pk2 I (by simpa using h);omega)];unfold cS;rw [acH _ _ (by omega)];rfl
  rw [hv];simp only [bw];rw [aR (by simp),cF (by simp;omega)];rfl
 |bi n a b iha ihb=>
  intro⟨⟨I,M,h3,h4⟩,ha,H⟩ ⟨hca,hcb⟩ s rest stack hl hp;rw [VW]at hp ⊢;simp only [Tr.flat,Tr.size,mj]at hl hp ⊢;have hap:=a.size_pos;rw [iha ha hca s _ stack (by omega) (by omega),ihb H hcb (s+a.size) _ (stack++[cS (pt lt a)]) (by simp;omega) (by omega)];simp only [B7,kW]
  conv=>lhs;rw [gY]
  have e1:(eY n (((s+a.size:Nat):Int)-1) (((s+a.size+b.size:Nat):Int)-1)).Tag=n.Tag:=rfl;rw [e1,mT I];have h0:=PR stack [cS (pt lt a),cS (pt lt b)] (by simp;omega);simp only [bw];have e0:(([cS (pt lt a),cS (pt lt b)]:List au).length:Int)=((2:Nat):Int):=rfl;have e9:stack++[cS (pt lt a)]++[cS (pt lt b)]=stack++[cS (pt lt a),cS (pt lt b)]:=by simp
  rw [<-e0,e9,h0];simp only [bw];have hv:mF (lt.map cS) (eY n (((s+a.size:Nat):Int)-1) (((s+a.size+b.size:Nat):Int)-1)) [cS (pt lt a),cS (pt lt b)]=some (cS (.bi n (pt lt a) (pt lt b)),0):=by
   unfold mF;rw [aR (by rw [e1];intro h;have:=pk2 I (by simpa using h);omega)];unfold cS;rw [Wf _ _ _ (by omega)];rfl
  rw [hv];simp only [bw];rw [aR (by simp),cF (by simp;omega)];rfl
def wt(lt:List Tr)(n:av):Nat:=if n.Tag=2 then((lt[n.X'.toNat]?).getD default).size else 1
def TV(lt:List Tr)(ns:List av):Nat:=(ns.map (wt lt)).sum
def KA(lt:List Tr)(a b:List av):TV lt (a++b)=TV lt a+TV lt b:=by simp [TV]
def Zg(lt:List Tr)(t:Tr):t.wf-> ∀s,TV lt (t.flat s)=(pt lt t).size:=by
 induction t with
 |lf n=>
  intro _ s;have e1:wt lt (eY n (-1) (-1))=wt lt n:=rfl;have e2:TV lt ((Tr.lf n).flat s)=wt lt n:=by
   simp only [Tr.flat,TV,va,xF,List.sum_cons,List.sum_nil,e1,vY]
  rw [e2];unfold wt pt;by_cases h:n.Tag=2
  ·rw [bz h,bz h]
  ·rw [aR h,aR h];rfl
 |un n a ih=>
  intro⟨⟨I,_⟩,ha⟩ s;have M: ¬n.Tag=2:=fun h=>by have:=pk2 I h;omega
  have e1:wt lt (eY n (((s+a.size:Nat):Int)-1) (-1))=1:=aR M;simp only [Tr.flat,KA,ih ha,ZH,Tr.size];simp only [TV,va,xF,List.sum_cons,List.sum_nil,e1,vY]
 |bi n a b iha ihb=>
  intro⟨⟨I,_⟩,ha,H⟩ s;have M: ¬n.Tag=2:=fun h=>by have:=pk2 I h;omega
  have e1:wt lt (eY n (((s+a.size:Nat):Int)-1) (((s+a.size+b.size:Nat):Int)-1))=1:=aR M;simp only [Tr.flat,KA,iha ha,ihb H,VW,Tr.size];simp only [TV,va,xF,List.sum_cons,List.sum_nil,e1,vY]
def Ig(e:au)(lt:List Tr)(hlt: ∀t∈lt,t.size<=1000): ∀(ns:List av) (n:Nat),(∀m∈ns,m.Tag=2->0<=m.X'/\m.X'<(lt.length:Int))->n+2000*ns.length<=100000000->
  qo e (lt.map cS) ns (n:Int)=if 1000<n+TV lt ns then some (⟨[]⟩,3)else(oL e (mF (lt.map cS))).bind fun r=>some (r.1,r.2)
 |[],n,_,_=>by
  unfold qo;by_cases h:1000<n
  ·rw [bz (by simp;omega),bz (by simp [TV];omega)]
  ·rw [aR (by simp;omega),aR (by simp [TV];omega)]
 |m::ns,n,hc,hl=>by
  simp only [jo]at hl;unfold qo;have hc' : ∀m∈ns,m.Tag=2->0<=m.X'/\m.X'<(lt.length:Int):=fun q hq=>hc q (ma _ hq);have ew:TV lt (m::ns)=wt lt m+TV lt ns:=by simp [TV]
  rw [ew];by_cases J:m.Tag=2
  ·obtain⟨h0,I⟩:=hc m (md ..) J;have hlt2:m.X'.toNat<lt.length:=by omega
   have hs:=hlt _ (A5 hlt2);have e2:wt lt m=lt[m.X'.toNat].size:=by unfold wt;rw [bz J,qg hlt2];rfl
   rw [bz (by simp [J]),mE m.X'.toNat (by omega),Co,qg hlt2];simp only [Iq,bw,cS,Tr.flat_len];have hpos:=lt[m.X'.toNat].size_pos;rw [cB (n:=(n:Int)+1) (by omega) (by omega),cB (n:=(lt[m.X'.toNat].size:Int)-1) (by omega) (by omega),cB (by omega) (by omega)];rw [show(n:Int)+1+((lt[m.X'.toNat].size:Int)-1)=((n+lt[m.X'.toNat].size:Nat):Int)from by omega];rw [Ig e lt hlt ns _ hc' (by omega),e2,Nat.add_assoc]
  ·have e2:wt lt m=1:=aR J;rw [aR (by simp [J]),cB (n:=(n:Int)+1) (by omega) (by omega),show(n:Int)+1=((n+1:Nat):Int)from by omega];rw [Ig e lt hlt ns _ hc' (by omega),e2,Nat.add_assoc]
def Pe(e:au)(l:List au)(x:au): ∀cs:List Int,xe e l cs x=if cs.all (fun c=>decide (c<(l.length:Int)))then qo e l e.j' 0 else some (⟨[]⟩,2)
 |[]=>rfl
 |c::cs=>by
  unfold xe;rw [Pe e l x cs];by_cases h:(l.length:Int)<=c
  ·rw [bz (by simpa using h),aR (by simp;omega)]
  ·rw [aR (by simpa using h)];have:c<(l.length:Int):=by omega
   simp [this]
def GA: ∀(l:List au) (n:Nat),(∀e∈l,e.j'.length<=100000)->n+100000*l.length<=10000000000->rl l (n:Int)=some (if l.all (fun e=>gX e.j')then(((n+(l.map fun e=>e.j'.length).sum:Nat):Int),0)else(0,200))
 |[],n,_,_=>by simp [rl]
 |e::l,n,H,hl=>by
  simp only [jo]at hl;have he:=H e (md ..);unfold rl;rw [pr e he];simp only [bw]
  cases hr:gX e.j' with
  |false=>simp [hr]
  |true=>
   simp only [hM];rw [aR (by decide),cB (by omega) (by omega),show(n:Int)+(e.j'.length:Int)=((n+e.j'.length:Nat):Int)from by omega];rw [GA l _ (fun q hq=>H q (ma _ hq)) (by omega)];simp [hr,Nat.add_assoc]
def wW(hw:t.wf)(hs:t.size<=1000):gX (t.flat 0)=true:=by unfold gX;rw [rY hw hs];rfl
def S8(e:au)(he:e.j'.length<=10000)(lt:List Tr)(hln:lt.length<=1000)(hlt: ∀t∈lt,t.wf/\t.size<=1000): ∃p no,GQ e (lt.map cS)=some (p,no)/\
  (no=0-> ∃t,ll e.j'=some t/\uS lt.length t/\(pt lt t).size<=1000/\p=cS (pt lt t)):=by
 unfold GQ;rw [cF (by simp;omega)];simp only [bw];unfold wy;have hn:=GA ([e]++lt.map cS) 0 (by
  intro q hq;rcases qR.1 hq with hq|hq
  ·simp only [mf]at hq;subst hq;omega
  ·obtain⟨t,J,rfl⟩:=rL.1 hq;have:=(hlt t J).2;simp only [cS,Tr.flat_len];omega) (by simp;omega)
 rw [show((0:Nat):Int)=0 from rfl]at hn;rw [hn];simp only [bw];have hall:([e]++lt.map cS).all (fun e=>gX e.j')=gX e.j':=by
  rw [As];have:(lt.map cS).all (fun e=>gX e.j')=true:=by
   rw [mN];intro q hq;obtain⟨t,J,rfl⟩:=rL.1 hq;exact wW (hlt t J).1 (hlt t J).2
  rw [this];simp
 rw [hall]
 cases hr:gX e.j' with
 |false=>exact⟨_,200,rfl,fun h=>by cases h⟩
 |true=>
  simp only [hM];rw [aR (by decide)];obtain⟨cs,I,M⟩:=BI e hr;rw [I];simp only [bw];rw [Pe];obtain⟨t,J⟩: ∃t,ll e.j'=some t:=by
   unfold gX at hr;exact Rn.1 hr
  obtain⟨hw,hN,hs⟩:=kH J;by_cases hcs:cs.all (fun c=>decide (c<((lt.map cS).length:Int)))=true
  ·rw [bz hcs];have hcol: ∀m∈e.j',m.Tag=2->0<=m.X'/\m.X'<(lt.length:Int):=by
    intro m hm htag;have h3:=mN.1 hcs _ ((M m.X').2 ⟨m,hm,htag,rfl⟩);rw [Am]at h3;exact⟨(vm hw 0 (by rw [<-hN];exact hm) htag).1,Kr h3⟩
   have hcT:uS lt.length t:=by
    refine xj _ t hw 0 ?_;unfold uA;rw [mN];intro m hm;rw [<-hN]at hm;by_cases htag:m.Tag=2
    ·have:=(hcol m hm htag).2;simp [htag,this]
    ·simp [htag]
   have h4:=Ig e lt (fun t J=>(hlt t J).2) e.j' 0 hcol (by omega);rw [show((0:Nat):Int)=0 from rfl]at h4;rw [h4,hN,Zg lt t hw];by_cases hsz:1000<0+(pt lt t).size
   ·rw [bz hsz];exact⟨_,3,rfl,fun h=>by cases h⟩
   ·rw [aR hsz];have h5:oL ⟨t.flat 0⟩ (mF (lt.map cS))=some (cS (pt lt t),0):=by
     unfold oL;have:=Ux lt (fun t J=>(hlt t J).2) t hw hcT 0 [] [] (by simp;omega) (by omega);rw [vb]at this;rw [this];rfl
    have e9:e=⟨t.flat 0⟩:=by cases e;simp only at hN;rw [hN]
    rw [e9,h5];exact⟨_,0,rfl,fun _=>⟨t,by rw [e9]at J;exact J,hcT,by omega,rfl⟩⟩
  ·rw [aR hcs];exact⟨_,2,rfl,fun h=>by cases h⟩
def cb(r:List ac):Tr->Bool
 | .lf n=> !(n.Tag==2)||H6 r n.X'
 | .un _ a=>cb r a
 | .bi _ a b=>cb r a&&cb r b
def My(r:List ac)(t:Tr):t.wf-> ∀s,ze r (t.flat s)=cb r t:=by
 induction t with
 |lf n=>intro _ s;simp only [ze,Tr.flat,xr,FV,Cj,cb];rfl
 |un n a ih=>
  intro⟨⟨I,_⟩,ha⟩ s;have M: ¬n.Tag=2:=fun h=>by have:=pk2 I h;omega
  have V:=ih ha s;unfold ze at V ⊢;simp only [Tr.flat,As,V,xr,FV,Cj,cb];have:(eY n (((s+a.size:Nat):Int)-1) (-1)).Tag=n.Tag:=rfl;rw [this];simp [M]
 |bi n a b iha ihb=>
  intro⟨⟨I,_⟩,ha,H⟩ s;have M: ¬n.Tag=2:=fun h=>by have:=pk2 I h;omega
  have V:=iha ha s;have hy:=ihb H (s+a.size);unfold ze at V hy ⊢;simp only [Tr.flat,As,V,hy,xr,FV,Cj,cb];have:(eY n (((s+a.size:Nat):Int)-1) (((s+a.size+b.size:Nat):Int)-1)).Tag=n.Tag:=rfl;rw [this];simp [M]
def aaZ(r:List ac)(hw:t.wf)(hs:t.size<=1000):BJ r (t.flat 0)=if cb r t then ev r t else(zV,2):=by
 unfold BJ;rw [rY hw hs];simp only [My r t hw]
def ZG(lt:List Tr)(hlt: ∀t∈lt,t.wf)(t:Tr):t.wf->uS lt.length t->(pt lt t).wf:=by
 induction t with
 |lf n=>
  intro hw hc;unfold pt;split
  ·rename_i J;have hlt2:n.X'.toNat<lt.length:=by have:=hc J;have:=(Mz hw.2.1 J).1;omega
   rw [qg hlt2];exact hlt _ (A5 hlt2)
  ·exact hw
 |un n a ih=>intro⟨h,ha⟩ hc;exact⟨h,ih ha hc⟩
 |bi n a b iha ihb=>intro⟨h,ha,H⟩ ⟨hca,hcb⟩;exact⟨h,iha ha hca,ihb H hcb⟩
def aiQ(lt:List Tr)(hlt: ∀t∈lt,Cf t)(t:Tr):t.wf->uS lt.length t->Cf t->Cf (pt lt t):=by
 induction t with
 |lf n=>
  intro hw hc hr;unfold pt;split
  ·rename_i J;have hlt2:n.X'.toNat<lt.length:=by have:=hc J;have:=(Mz hw.2.1 J).1;omega
   rw [qg hlt2];exact hlt _ (A5 hlt2)
  ·exact hr
 |un n a ih=>intro⟨h,ha⟩ hc hr;exact ih ha hc hr
 |bi n a b iha ihb=>intro⟨h,ha,H⟩ ⟨hca,hcb⟩ ⟨hra,hrb⟩;exact⟨iha ha hca hra,ihb H hcb hrb⟩
def aiS(own:List ac)(lt:List Tr)(hlt: ∀t∈lt,cb own t=true)(t:Tr):t.wf->uS lt.length t->cb own (pt lt t)=true:=by
 induction t with
 |lf n=>
  intro hw hc;unfold pt;split
  ·rename_i J;have hlt2:n.X'.toNat<lt.length:=by have:=hc J;have:=(Mz hw.2.1 J).1;omega
   rw [qg hlt2];exact hlt _ (A5 hlt2)
  ·rename_i J;simp [cb,J]
 |un n a ih=>intro⟨h,ha⟩ hc;exact ih ha hc
 |bi n a b iha ihb=>intro⟨h,ha,H⟩ ⟨hca,hcb⟩;rw [VW];simp only [cb,iha ha hca,ihb H hcb,Kj]
def Mx(own:List ac)(lt:List Tr):List ac:=lt.map fun t=>(ev own t).1
def aiR(own:List ac)(lt:List Tr)(hlt: ∀t∈lt,(ev own t).2=0)(t:Tr):t.wf->uS lt.length t->ev own (pt lt t)=ev (Mx own lt) t:=by
 induction t with
 |lf n=>
  intro hw hc;unfold pt;split
  ·rename_i J;have hlt2:n.X'.toNat<lt.length:=by have:=hc J;have:=(Mz hw.2.1 J).1;omega
   rw [qg hlt2];have e1:ev (Mx own lt) (.lf n)=((ev own lt[n.X'.toNat]).1,0):=by
    rw [ev,aR (by omega)];unfold Mx;rw [Co,qg hlt2];rfl
   rw [e1];exact Prod.ext rfl (hlt _ (A5 hlt2))
  ·rename_i J;have ht1:n.Tag=1:=(ZJ hw.1).resolve_right J;rw [ev,ev,bz ht1,bz ht1]
 |un n a ih=>intro⟨h,ha⟩ hc;rw [ZH,GR,GR,ih ha hc]
 |bi n a b iha ihb=>intro⟨h,ha,H⟩ ⟨hca,hcb⟩;rw [VW,C4,C4,iha ha hca,ihb H hcb]
def ajp{n:av}(h:ND n=true)(J:n.Tag≠1):n.Value=zV:=by
 have M:=lW n;rw [h]at M;unfold mS at M;rw [aR (by simpa using J)]at M;split at M
 ·simp at M;exact M.1.1
 ·simp at M;exact M.1
def afg(t:Tr):t.wf->Cf t-> ∀s,Nt (t.flat s):=by
 induction t with
 |lf n=>intro _ hr s m hm;simp only [Tr.flat,mf]at hm;subst hm;exact hr
 |un n a ih=>
  intro⟨⟨I,M,_⟩,hw⟩ hr s m hm;simp only [Tr.flat,qR,mf]at hm;rcases hm with hm|rfl
  ·exact ih hw hr s m hm
  ·show r64 n.Value.N;rw [ajp M (fun h=>by rw [h]at I;simp [pk]at I)];exact⟨by decide,by decide⟩
 |bi n a b iha ihb=>
  intro⟨⟨I,M,_⟩,hwa,hwb⟩ ⟨hra,hrb⟩ s m hm;simp only [Tr.flat,qR,mf]at hm;rcases hm with(hm|hm)|rfl
  ·exact iha hwa hra s m hm
  ·exact ihb hwb hrb _ m hm
  ·show r64 n.Value.N;rw [ajp M (fun h=>by rw [h]at I;simp [pk]at I)];exact⟨by decide,by decide⟩
def dN:Tr->List Tr
 | .lf n=>[.lf n]
 | .un n a=>[.un n a]
 | .bi n a b=>if n.Tag=22 then dN a++dN b else [.bi n a b]
def qc(n:av)(a b:Tr):dN (.bi n a b)=if n.Tag=22 then dN a++dN b else [.bi n a b]:=rfl
def us(s:Nat)(x:Int):Int:=if 0<=x then x-(s:Int)else x
def TP(s:Nat)(n:av):av:=eY n (us s n.L) (us s n.R)
def Rv(k:Nat)(n:av)(l r:Int):TP k (eY n l r)=eY n (us k l) (us k r):=rfl
def KH{k:Nat}(h:0<=x):us k x=x-(k:Int):=bz h
def agq(k:Nat):us k (-1)= -1:=rfl
def acS(t:Tr)(k:Nat): ∀s,(t.flat (s+k)).map (TP k)=t.flat s:=by
 induction t with
 |lf m=>intro s;rfl
 |un m a ih=>
  intro s;have:=a.size_pos;simp only [Tr.flat,Cn,ih,va,xF,Rv,agq];rw [KH (by omega),show((s+k+a.size:Nat):Int)-1-(k:Int)=((s+a.size:Nat):Int)-1 from by omega]
 |bi m a b iha ihb=>
  intro s;have:=a.size_pos;have:=b.size_pos;have H:=ihb (s+a.size);rw [show s+a.size+k=s+k+a.size from by omega]at H;simp only [Tr.flat,Cn,iha,H,va,xF,Rv];rw [KH (by omega),KH (by omega),show((s+k+a.size:Nat):Int)-1-(k:Int)=((s+a.size:Nat):Int)-1 from by omega,show((s+k+a.size+b.size:Nat):Int)-1-(k:Int)=((s+a.size+b.size:Nat):Int)-1 from by omega]
def alf(n:av):Prop:= -1000000<=n.L/\n.L<=1000000/\ -1000000<=n.R/\n.R<=1000000
def Yx(t:Tr): ∀s,s+t.size<=1000000-> ∀n∈t.flat s,alf n:=by
 induction t with
 |lf m=>intro s _ n hn;simp only [Tr.flat,mf]at hn;subst hn;refine⟨?_,?_,?_,?_⟩<;>simp [eY]
 |un m a ih=>
  intro s hs n hn;simp only [Tr.size]at hs;simp only [Tr.flat,qR,mf]at hn;rcases hn with hn|rfl
  ·exact ih s (by omega) n hn
  ·refine⟨?_,?_,?_,?_⟩<;>simp only [eY]<;>omega
 |bi m a b iha ihb=>
  intro s hs n hn;simp only [Tr.size]at hs;simp only [Tr.flat,qR,mf]at hn;rcases hn with(hn|hn)|rfl
  ·exact iha s (by omega) n hn
  ·exact ihb _ (by omega) n hn
  ·refine⟨?_,?_,?_,?_⟩<;>simp only [eY]<;>omega
def MZ(nx:List au->List Int->Option (List au))(out:List au)(ho:out.length<=100000)(y:List Int)(k:Nat)(hk:k<=1000000)(xs:List av)(H: ∀n∈xs,alf n): ∀(tl:List av) (i:Nat),xs.drop i=tl->
  nU nx out y (k:Int) tl i ⟨(xs.take i).map (TP k)++xs.drop i⟩=nx (out++[⟨xs.map (TP k)⟩]) y
 |[],i,h=>by
  have:=Jq.1 h;unfold nU;rw [cF (by simp;omega)];unfold vN;rw [h,vb,rO this];rfl
 |e::tl,i,h=>by
  have hi:i<xs.length:=by
   rcases wN i xs.length with q|q
   ·exact q
   ·rw [D0 q]at h;cases h
  obtain⟨b1,b2,b3,b4⟩:=H xs[i] (A5 hi);have hd:xs.drop (i+1)=tl:=by rw [<-uf,h];rfl
  have ih:=MZ nx out ho y k hk xs H tl (i+1) hd;have hs:=PH (TP k) xs i hi;have V:=Qh (TP k) xs i hi;unfold nU;dsimp only;rw [V];simp only [bw];have hk2: ∀(m:av),m.Tag=xs[i].Tag->m.X'=xs[i].X'->m.Value=xs[i].Value->m.R=xs[i].R->m.L=us k xs[i].L-> ∀zs:List av,zs[i]? =some m->zs.set i (TP k xs[i])=(xs.take (i+1)).map (TP k)++xs.drop (i+1)->
    vM (k:Int) (nU nx out y (k:Int) tl) i ⟨zs⟩=nx (out++[⟨xs.map (TP k)⟩]) y:=by
   intro m I M h3 h4 h5 zs hz hset;unfold vM;dsimp only;rw [cG,hz];simp only [bw];by_cases hR:0<=m.R
   ·rw [bz (by simpa using hR)];have hm:({m with R:=i64.wrap (m.R-(k:Int))}:av)=TP k xs[i]:=by
     rw [cB (by omega) (by omega)];obtain⟨mt,ml,mr,mc,mv⟩:=m;simp only at I M h3 h4 h5 hR;subst I M h3 h4 h5;simp only [TP,eY,KH hR]
    rw [hm,zn,hset];exact ih
   ·rw [aR (by simpa using hR)];have hm:m=TP k xs[i]:=by
     obtain⟨mt,ml,mr,mc,mv⟩:=m;simp only at I M h3 h4 h5 hR;subst I M h3 h4 h5;simp only [TP,eY,us,aR hR]
    have e1:zs.set i (TP k xs[i])=zs:=by
     rw [<-hm];apply Kq;intro j;by_cases hj:j=i
     ·subst hj;have hlt:=(qS.1 hz).1;rw [List.getElem?_set_self hlt,hz]
     ·rw [List.getElem?_set_ne (by omega)]
    rw [<-e1,hset];exact ih
  have hzi:((xs.take i).map (TP k)++xs.drop i)[i]? =some xs[i]:=by rw [<-cG];exact V
  have hlen:i<((xs.take i).map (TP k)++xs.drop i).length:=(qS.1 hzi).1;by_cases hL:0<=xs[i].L
  ·rw [bz (by simpa using hL),zn];refine hk2 ({xs[i]with L:=i64.wrap (xs[i].L-(k:Int))}:av) rfl rfl rfl rfl (by show i64.wrap (xs[i].L-(k:Int))=_;rw [cB (by omega) (by omega),KH hL]) _ (by rw [List.getElem?_set_self hlen]) ?_;rw [List.set_set];exact hs
  ·rw [aR (by simpa using hL)];exact hk2 xs[i] rfl rfl rfl rfl (by simp only [us,aR hL]) _ hzi hs
def Fk(N:List av)(all:List Int)(su:Nat×Tr):Prop:=su.2.wf/\su.1+su.2.size<=N.length/\(N.drop su.1).take su.2.size=su.2.flat su.1/\(all.drop su.1).take su.2.size=fl su.2 su.1
def RQ(su:Nat×Tr):Int:=((su.1+su.2.size:Nat):Int)-1
def EC:Tr->Nat->av
 | .lf n,_=>eY n (-1) (-1)
 | .un n a,s=>eY n (((s+a.size:Nat):Int)-1) (-1)
 | .bi n a b,s=>eY n (((s+a.size:Nat):Int)-1) (((s+a.size+b.size:Nat):Int)-1)
def Yw(t:Tr)(s:Nat):(t.flat s)[t.size-1]? =some (EC t s):=by
 cases t with
 |lf n=>rfl
 |un n a=>
  simp only [Tr.flat,Tr.size,EC];rw [we (by rw [a.flat_len];omega),a.flat_len];simp
 |bi n a b=>
  simp only [Tr.flat,Tr.size,EC];rw [we (by simp [a.flat_len,b.flat_len]),lj,a.flat_len,b.flat_len];simp
def R5{N xs:List α}{s k j:Nat}(h:(N.drop s).take k=xs)(hj:j<k):N[s+j]? =xs[j]? :=by
 rw [<-h,D1 hj,A7]
def R1{N:List av}{all:List Int}{su:Nat×Tr}(h:Fk N all su):cO N (RQ su)=some (EC su.2 su.1)/\cO all (RQ su)=some (su.1:Int):=by
 obtain⟨hw,hl,I,M⟩:=h;have hp:=su.2.size_pos;have e:RQ su=((su.1+(su.2.size-1):Nat):Int):=by unfold RQ;omega
 rw [e,cG,cG,R5 I (by omega),R5 M (by omega),Yw,Wo];exact⟨rfl,rfl⟩
def N5{N xs ys zs:List α}{s k a b:Nat}(h:(N.drop s).take k=xs++ys++zs)(V:xs.length=a)(hy:ys.length=b):(N.drop s).take a=xs/\(N.drop (s+a)).take b=ys:=by
 have hk:a+b<=k:=by
  have:=congrArg List.length h;simp only [At,lj,Em]at this;omega
 constructor
 ·have:=congrArg (List.take a) h;rw [DX,DY (by omega)]at this;rw [this,mj,D2 (by omega),rO (by omega)]
 ·have this:(((N.drop s).take k).drop a).take b=((xs++ys++zs).drop a).take b:=by rw [h]
  rw [Cm,uf,DX,DY (by omega)]at this;rw [this,mj,Pp (by omega),Hi (by omega),kW,D2 (by omega),rO (by omega)]
def Yb{N:List av}{all:List Int}{s:Nat}{n:av}{a b:Tr}(h:Fk N all (s,.bi n a b)):Fk N all (s,a)/\Fk N all (s+a.size,b):=by
 obtain⟨⟨_,ha,H⟩,hl,I,M⟩:=h;simp only [Tr.size,Tr.flat,fl]at hl I M;obtain⟨h3,h4⟩:=N5 I (a.flat_len s) (b.flat_len _);obtain⟨h5,h6⟩:=N5 M (xC a s) (xC b _);exact⟨⟨ha,by show s+a.size<=_;omega,h3,h5⟩,⟨H,by show s+a.size+b.size<=_;omega,h4,h6⟩⟩
def szs:List (Nat×Tr)->Nat
 |[]=>0
 |su::st=>su.2.size+szs st
def ZO(st:List (Nat×Tr)):List au:=st.flatMap fun su=>(dN su.2).map cS
def abB{s:Nat}(hw:t.wf)(h:(EC t s).Tag≠22):dN t=[t]:=by
 cases t with
 |lf n=>rfl
 |un n a=>rfl
 |bi n a b=>rw [qc,aR (show¬n.Tag=22 from h)]
def abA{s:Nat}(hw:t.wf)(h:(EC t s).Tag=22): ∃n a b,t= .bi n a b/\n.Tag=22:=by
 cases t with
 |lf n=>
  have h:n.Tag=22:=h;have I:=hw.1;rw [h]at I;simp [pk]at I
 |un n a=>
  have h:n.Tag=22:=h;have I:=hw.1.1;rw [h]at I;simp [pk]at I
 |bi n a b=>exact⟨n,a,b,rfl,h⟩
def FM(N:List av)(hN:N.length<=100000)(all:List Int)(b:Bool): ∀(fu:Nat) (st:List (Nat×Tr)) (out:List au),(∀su∈st,Fk N all su)->szs st<fu->st.length<=100000->out.length+szs st<=90000->
  lH ⟨N⟩ (all,b) fu out (st.map RQ).reverse=some (out++ZO st)
 |0,_,_,_,h,_,_=>by omega
 |fu+1,[],out,_,_,_,_=>by
  unfold lH;simp [ZO]
 |fu+1,su::st,out,hp,hf,hs,ho=>by
  have hp0:=hp su (md ..);obtain⟨I,M⟩:=R1 hp0;simp only [jo]at hs;simp only [szs]at hf ho;have hpos:=su.2.size_pos;unfold lH;have hlen:((su::st).map RQ).reverse.length=st.length+1:=by simp
  rw [bz (by rw [hlen];simp<;>omega),hlen,cB (by omega) (by omega)];have e1:((su::st).map RQ).reverse=(st.map RQ).reverse++[RQ su]:=by simp
  rw [e1,mE st.length (by omega),we (by simp)];simp only [List.length_reverse,Am,Ar,Nf,bw];rw [jD (i:=0) 0 st.length rfl (by omega) (nh _) (by simp),xu];rw [D2 (by simp),rO (by simp)];simp only [bw];rw [I];simp only [bw];have hp' : ∀q∈st,Fk N all q:=fun q hq=>hp q (ma _ hq);by_cases J:(EC su.2 su.1).Tag=22
  ·rw [bz (by simp [J])];obtain⟨s,u⟩:=su;obtain⟨n,a,c,rfl,hn⟩:=abA hp0.1 J;obtain⟨hpa,hpb⟩:=Yb hp0;simp only [Tr.size]at hf ho;have e2:(st.map RQ).reverse++[(EC (.bi n a c) s).R,(EC (.bi n a c) s).L]=(((s,a)::(s+a.size,c)::st).map RQ).reverse:=by
    simp [EC,eY,RQ]
   simp only at hN ⊢;rw [cF (by simp;omega)];simp only [bw];unfold vN;rw [e2,FM N hN all b fu ((s,a)::(s+a.size,c)::st) out (fun q hq=>by
    rcases iW.1 hq with rfl|hq
    ·exact hpa
    ·rcases iW.1 hq with rfl|hq
     ·exact hpb
     ·exact hp' q hq) (by simp only [szs];omega) (by
      have: ∀l:List (Nat×Tr),l.length<=szs l:=by
       intro l
       induction l with
       |nil=>exact kG _
       |cons q l ih=>have:=q.2.size_pos;simp [szs];omega
      have:=this st;simp only [jo];omega) (by simp only [szs];omega)]
   congr 2;simp only [ZO,Hg,qc,bz hn,Cn,mj]
  ·rw [aR (by simpa using J),M];obtain⟨s,u⟩:=su;obtain⟨hw,hl,h3,h4⟩:=hp0;simp only at hl h3 h4 hpos hf ho ⊢;simp only [bw];have e3:i64.wrap (RQ (s,u)+1)=((s+u.size:Nat):Int):=by
    unfold RQ;simp only;rw [cB (by omega) (by omega)];omega
   rw [e3,jD s (s+u.size) rfl rfl (by omega) hl];have e4:(N.take (s+u.size)).drop s=u.flat s:=by rw [Cm,Nat.add_sub_cancel_left];exact h3
   rw [e4];simp only [bw];rw [BQ _ (by rw [u.flat_len];omega)];simp only [bw];have h5:=MZ (lH ⟨N⟩ (all,b) fu) out (by omega) (st.map RQ).reverse s (by omega) (u.flat s) (Yx u s (by omega)) (u.flat s) 0 rfl;simp only [List.take_zero,xF,kW,xu]at h5;rw [h5];have h6:=acS u s 0;rw [u9]at h6;rw [h6,FM N hN all b fu st _ hp' (by omega) (by omega) (by simp;omega)];congr 1;simp only [ZO,Hg,abB hw J,va,xF,mj];rfl
def QH(e:au)(hl:e.j'.length<=80000):DL e=some (match ll e.j' with
  |none=>[]
  |some t=>(dN t).map cS):=by
 unfold DL;have hf:=ON e.j' [] (by simp [cW];omega);simp only [cW,SU,pN]at hf;unfold xc;rw [show((0:Nat))=0 from rfl]at hf;rw [hf];unfold ll
 cases hp:tP e.j' []with
 |none=>rfl
 |some st=>
  have hsz:=IN hp
  match st,hsz with
  |[],_=>rfl
  |[t],hsz=>
   simp only [bw,jo,ug,u9,decide_true,Al];have hw:=(yW hp (fun t J=>by cases J)).2 t (md ..);have hfl:=(yW hp (fun t J=>by cases J)).1;simp only [AM,cW,kW,u9]at hfl hsz;simp only [cW,u9,hsz];by_cases I:e.j'.length<=1000
   ·rw [aR (by simp [I])];simp only [I,decide_true,hM];have hpl:Fk e.j' (SU [t]) (0,t):=by
     refine⟨hw,by show 0+t.size<=_;omega,?_,?_⟩
     ·simp only [xu];rw [<-hfl,rO (by rw [t.flat_len];exact kG _)]
     ·simp only [SU,cW,kW,xu];rw [rO (by rw [xC];exact kG _)]
    have M:=FM e.j' (by omega) (SU [t]) true jl [(0,t)] [] (fun q hq=>by
     simp only [mf]at hq;subst hq;exact hpl) (by simp only [szs];exact Ca (BX _) (oQ (by omega))) (by simp) (by simp [szs];omega)
    have e2:([(0,t)].map RQ).reverse=[((e.j'.length:Int)-1)]:=by
     simp only [va,xF,List.reverse_cons,List.reverse_nil,kW,RQ];rw [<-hsz];simp
    rw [e2]at M;rw [cB (by omega) (by omega)];have e9:(⟨e.j'⟩:au)=e:=rfl;rw [e9]at M;rw [M];simp [ZO]
   ·rw [bz (by simp [I])];simp only [I,gT]
  |t::t2::st,_=>simp
def eP(own:List ac)(t:Tr):ac×Int:=if cb own t then ev own t else(zV,2)
def JF(h:cb own t=true):eP own t=ev own t:=bz h
def QL(h:cb own t=false):eP own t=(zV,2):=aR (by rw [h];decide)
def GX(hown:RT own)(hw:t.wf)(hr:Cf t):((eP own t).2=0/\Pl (eP own t).1)\/(eP own t).2≠0:=by
 unfold eP
 cases hc:cb own t with
 |false=>exact .inr (by simp)
 |true=>
  have hcV:=BO hown t hw 0 (by rw [My own t hw];exact hc);simp only [hM];rcases tX own t hw hr hcV with⟨I,M⟩|h|h
  ·exact .inl ⟨I,M⟩
  ·rw [h];exact .inr (by decide)
  ·rw [h];exact .inr (by decide)
def aiP(a b:ac):IL 22 a b=if a.Kind<=1/\b.Kind<=1 then(MH a b,0)else(zV,2):=rfl
def aa8(hown:RT own){n:av}{a b:Tr}(hn:n.Tag=22)(ha:a.wf)(H:b.wf)(hra:Cf a)(hrb:Cf b):
  ((eP own (.bi n a b)).2=0↔(eP own a).2=0/\(eP own b).2=0/\(eP own a).1.Kind<=1/\(eP own b).1.Kind<=1)/\((eP own (.bi n a b)).2=0->(eP own (.bi n a b)).1=MH (eP own a).1 (eP own b).1):=by
 have hA:=GX hown ha hra;have hB:=GX hown H hrb;by_cases hca:cb own a=true
 ·by_cases hcb:cb own b=true
  ·have hab:cb own (.bi n a b)=true:=by simp only [cb,hca,hcb,Kj]
   rw [JF hca]at hA ⊢;rw [JF hcb]at hB ⊢;rw [JF hab,C4,hn];rcases hA with⟨I,p1⟩|I
   ·rw [sS I];rcases hB with⟨M,p2⟩|M
    ·rw [sS M];unfold dz;rw [aiP];by_cases hk:(ev own a).1.Kind<=1/\(ev own b).1.Kind<=1
     ·rw [bz hk];simp [I,M,hk]
     ·rw [aR hk];refine⟨⟨fun h=>by simp at h,fun h=>absurd ⟨h.2.2.1,h.2.2.2⟩ hk⟩,fun h=>by simp at h⟩
    ·rw [mI M];exact⟨⟨fun h=>absurd h M,fun h=>absurd h.2.1 M⟩,fun h=>absurd h M⟩
   ·rw [mI I];exact⟨⟨fun h=>absurd h I,fun h=>absurd h.1 I⟩,fun h=>absurd h I⟩
  ·have hab:cb own (.bi n a b)=false:=by simp only [cb];rw [yE]at hcb;rw [hcb,Bool.and_false]
   rw [yE]at hcb;rw [QL hab,QL hcb];simp
 ·have hab:cb own (.bi n a b)=false:=by simp only [cb];rw [yE]at hca;rw [hca,Kl]
  rw [yE]at hca;rw [QL hab,QL hca];simp
def fA(v:ac)(l:List ac):ac:=l.foldl MH v
def Ts:t.wf->Cf t-> ∀u∈dN t,u.wf/\Cf u/\dN u=[u]/\u.size<=t.size:=by
 induction t with
 |lf n=>intro hw hr u hu;simp only [dN,mf]at hu;subst hu;exact⟨hw,hr,rfl,kG _⟩
 |un n a _=>intro hw hr u hu;simp only [dN,mf]at hu;subst hu;exact⟨hw,hr,rfl,kG _⟩
 |bi n a b iha ihb=>
  intro hw hr u hu;rw [qc]at hu;by_cases hn:n.Tag=22
  ·rw [bz hn]at hu;rcases qR.1 hu with hu|hu
   ·obtain⟨I,M,h3,h4⟩:=iha hw.2.1 hr.1 u hu;exact⟨I,M,h3,by simp only [Tr.size];omega⟩
   ·obtain⟨I,M,h3,h4⟩:=ihb hw.2.2 hr.2 u hu;exact⟨I,M,h3,by simp only [Tr.size];omega⟩
  ·rw [aR hn]at hu;simp only [mf]at hu;subst hu;exact⟨hw,hr,by rw [qc,aR hn],kG _⟩
def Xp(t:Tr):dN t≠[]:=by
 induction t with
 |lf n=>simp [dN]
 |un n a _=>simp [dN]
 |bi n a b iha ihb=>
  rw [qc];split
  ·simp [iha]
  ·simp
def Sk:av:=⟨22,-1,-1,0,zV⟩
def il(a:Tr)(l:List Tr):Tr:=l.foldl (fun x y=> .bi Sk x y) a
def wj(l:List Tr):Nat:=(l.map Tr.size).sum
def s4(a:Tr)(l:List Tr):wj (a::l)=a.size+wj l:=by simp [wj]
def Rz(a b:List Tr):wj (a++b)=wj a+wj b:=by simp [wj]
def O7(t:Tr):wj (dN t)+(dN t).length=t.size+1:=by
 induction t with
 |lf n=>rfl
 |un n a _=>simp [dN,wj]
 |bi n a b iha ihb=>
  rw [qc];split
  ·rw [Rz,lj];simp only [Tr.size];omega
  ·simp [wj]
def uX: ∀(l:List Tr) (a:Tr),(il a l).size=a.size+wj l+l.length
 |[],a=>rfl
 |y::l,a=>by
  show(il (.bi Sk a y) l).size=_;rw [uX l,s4];simp only [Tr.size,jo];omega
def PZ:LH 2 Sk:=⟨rfl,rfl,rfl,rfl⟩
def Xs: ∀(l:List Tr) (a:Tr),a.wf->(∀u∈l,u.wf)->(il a l).wf
 |[],_,h,_=>h
 |y::l,a,h,k=>Xs l (.bi Sk a y) ⟨PZ,h,k y (md ..)⟩ fun u hu=>k u (ma _ hu)
def QT: ∀(l:List Tr) (a:Tr),Cf a->(∀u∈l,Cf u)->Cf (il a l)
 |[],_,h,_=>h
 |y::l,a,h,k=>QT l (.bi Sk a y) ⟨h,k y (md ..)⟩ fun u hu=>k u (ma _ hu)
def O8: ∀(l:List Tr) (a:Tr),(∀u∈l,dN u=[u])->dN (il a l)=dN a++l
 |[],a,_=>by simp [il]
 |y::l,a,k=>by
  show dN (il (.bi Sk a y) l)=_;rw [O8 l _ fun u hu=>k u (ma _ hu),qc,bz (show Sk.Tag=22 from rfl),k y (md ..)];simp
def Pm: ∀(l:List Tr) (a:Tr),(il a l).size<=50000->xf (l.map cS) (cS a)=some (cS (il a l),0)
 |[],a,_=>rfl
 |y::l,a,h=>by
  simp only [va];unfold xf;have I:(il (.bi Sk a y) l).size<=50000:=h;rw [uX]at I;simp only [Tr.size]at I;have M:oj ⟨22,0,0,0,⟨0,0,0,[]⟩⟩ [cS a,cS y]=some (cS (.bi Sk a y)):=Wf ⟨22,0,0,0,⟨0,0,0,[]⟩⟩ a y (by omega);rw [M];exact Pm l (.bi Sk a y) h
def Ja(a:Tr)(l:List Tr)(hw: ∀u∈a::l,u.wf/\u.size<=1000)(hs:wj (a::l)+l.length<=1000):vO ((a::l).map cS)=some (cS (il a l),0):=by
 unfold vO wy;have hll: ∀l:List Tr,l.length<=wj l:=by
  intro l
  induction l with
  |nil=>exact kG _
  |cons q l ih=>have:=q.size_pos;rw [s4];simp;omega
 have hll2:=hll (a::l);have hn:=GA ((a::l).map cS) 0 (by
  intro q hq;obtain⟨t,J,rfl⟩:=rL.1 hq;have:=(hw t J).2;simp only [cS,Tr.flat_len];omega) (by rw [Am];omega)
 rw [show((0:Nat):Int)=0 from rfl]at hn;rw [hn];have hall:((a::l).map cS).all (fun e=>gX e.j')=true:=by
  rw [mN];intro q hq;obtain⟨t,J,rfl⟩:=rL.1 hq;exact wW (hw t J).1 (hw t J).2
 have hsum:(((a::l).map cS).map fun e=>e.j'.length).sum=wj (a::l):=by
  rw [vZ];unfold wj;congr 1;apply ET;intro t _;simp only [Function.comp_apply,cS,Tr.flat_len]
 rw [hall,hsum];simp only [hM,bw];rw [aR (by decide),aR (by simp;omega)];rw [Am,cB (n:=((0+wj (a::l):Nat):Int)+((a::l).length:Int)) (by omega) (by omega),cB (by omega) (by omega)];rw [aR (by simp only [jo,nE];omega)];simp only [va];rw [show cO (cS a::l.map cS) 0=some (cS a)from rfl];simp only [bw];have hsa:=(hw a (md ..)).2;rw [BQ _ (by simp only [cS,Tr.flat_len];omega)];simp only [bw];rw [show(1:Int)=((1:Nat):Int)from rfl,jD 1 (cS a::l.map cS).length rfl (by simp) (by simp) (kG _)];simp only [DZ,bw];rw [s4]at hs;exact Pm l a (by rw [uX];omega)
def Eg:Tr->Bool
 | .lf n=>Rb n
 | .un n a=>Eg a||Rb n
 | .bi n a b=>Eg a||Eg b||Rb n
def C0(t:Tr): ∀s,(t.flat s).any Rb=Eg t:=by
 induction t with
 |lf n=>intro s;simp only [Tr.flat,BW,List.any_nil,Bool.or_false,Eg];rfl
 |un n a ih=>intro s;simp only [Tr.flat,Km,ih,BW,List.any_nil,Bool.or_false,Eg];rfl
 |bi n a b iha ihb=>intro s;simp only [Tr.flat,Km,iha,ihb,BW,List.any_nil,Bool.or_false,Eg];rfl
def Dn(hw:t.wf)(hs:t.size<=1000):th (cS t)=some (!(Eg t)):=by
 rw [QG _ (by simp only [cS,Tr.flat_len];omega)];unfold cS;rw [wW hw hs,C0];rfl
def Db{a b:Bool}(h:a=true↔b=true):a=b:=by cases a<;>cases b<;>simp_all
def QN: ∀(p:Int) (l:List Int),(p::l).Pairwise (· <= ·)->(p::xi p l).Pairwise (· < ·)
 |p,[],_=>by rw [AQ];simp
 |p,x::t,h=>by
  rw [yF,yF]at h;have hpx:=h.1 x (md ..);by_cases V:x=p
  ·rw [AP V];subst V;exact QN x t (yF.2 h.2)
  ·rw [DN V];have ih:=QN x t (yF.2 h.2);refine yF.2 ⟨fun z hz=>?_,ih⟩;rcases iW.1 hz with rfl|hz
   ·omega
   ·have:=(yF.1 ih).1 z hz;omega
def abb(l:List Int)(h:l.Pairwise (· <= ·)):(sP l).Pairwise (· < ·):=by
 cases l with
 |nil=>exact List.Pairwise.nil
 |cons x t=>exact QN x t h
def Zs(l:List Int):(sortI l).Pairwise (· <= ·):=by
 unfold sortI;have:=List.pairwise_mergeSort (le:=fun x y:Int=>decide (x<=y)) (fun a b c I M=>by simp at*;omega) (fun a b=>by simp;omega) l;exact this.imp fun h=>by simpa using h
def QP(ns:List av):List Int:=(ns.filter fun n=>n.Tag==2).map (·.X')
def Di: ∀(ns:List av) (out:List Int),out.length+ns.length<=8000->mV ns out=some (sP (sortI (out++QP ns)))
 |[],out,h=>by
  unfold mV;rw [Ho];rw [bz (by simp at h;omega)];simp only [bw];rw [Jg _ (by rw [Dl];simpa using h)];simp [QP]
 |n::ns,out,h=>by
  simp only [jo]at h;unfold mV;by_cases J:n.Tag=2
  ·rw [bz (by simp [J]),cF (by simp;omega)];simp only [bw];rw [Di ns (out++[n.X']) (by simp;omega)];simp [QP,J]
  ·rw [aR (by simp [J]),Di ns out (by omega)];simp [QP,J]
def Z7(ns:List av)(c:Int):c∈QP ns↔ ∃n∈ns,n.Tag=2/\n.X'=c:=by
 unfold QP;rw [rL];constructor
 ·rintro⟨n,hn,rfl⟩;rw [A4]at hn;exact⟨n,hn.1,by simpa using hn.2,rfl⟩
 ·rintro⟨n,hn,J,rfl⟩;exact⟨n,A4.2 ⟨hn,by simp [J]⟩,rfl⟩
def JV(h:r64 x):(BitVec.ofInt 64 x).msb=decide (x<0):=by
 unfold r64 at h;rw [BitVec.msb_eq_toInt,BitVec.toInt_ofInt];congr 1;have:x.bmod (2^64)=x:=by
  rw [Int.bmod_def];split<;>omega
 rw [this]
def KB(b:BitVec 64):i64.wrap (b.toNat:Int)=b.toInt:=by
 rw [Kn,BitVec.toInt_eq_toNat_cond];have:=b.isLt;first|done|omega|(split<;>omega)
def VE(V:r64 x)(hy:r64 y):(decide (nV .xor .i64 x y<0))=(decide (x<0) !=decide (y<0))/\r64 (nV .xor .i64 x y):=by
 refine⟨?_,w7 _⟩;have e:nV .xor .i64 x y=(BitVec.ofInt 64 x^^^BitVec.ofInt 64 y).toInt:=KB _;rw [e,<-BitVec.msb_eq_toInt,BitVec.msb_xor,JV V,JV hy]
def aeV(V:r64 x)(hy:r64 y):(decide (nV .and .i64 x y<0))=(decide (x<0)&&decide (y<0)):=by
 have e:nV .and .i64 x y=(BitVec.ofInt 64 x&&&BitVec.ofInt 64 y).toInt:=KB _;rw [e,<-BitVec.msb_eq_toInt,BitVec.msb_and,JV V,JV hy]
instance(z:Int):Decidable (r64 z):=by unfold r64;infer_instance
def sg(x y:Int):Int:=if x<y then -1 else if y<x then 1 else 0
def Fi(z:Int):ac:=⟨4,z/18446744073709551616,z%18446744073709551616,[]⟩
def V3(z:Int):Prop:=z.natAbs<1208925819614629174706176
def Oj(z:Int):j9 (Fi z)=true:=by unfold j9 n8 Fi;rfl
def MG{kind:Int}(h:j9 v=true)(hk:v.Kind=0\/v.Kind=kind):uT kind [v]=some 0:=by
 unfold uT nW nW;rw [rX,h];simp only [hM,bw];rw [aR (by decide),aR];simp;omega
def Pw(hr:r64 v.N):wB v=some (Fi v.N):=by
 unfold r64 at hr;unfold wB Fi;have e:(2:Int)^(min (Int.toNat (63:Int)) i64.bits)=9223372036854775808:=by decide
 rw [e,Ir];congr 2;rw [Int.fdiv_eq_ediv_of_nonneg _ (by decide)];omega
def ZI(V:V3 x)(hy:V3 y)(hs:V3 (x+y)):BS (Fi x) (Fi y)=some (Fi (x+y),0):=by
 unfold V3 at V hy hs;unfold BS Fi Tw;simp only [];rw [bz (by omega),bw];simp only [];rw [bz (by rw [Ir,Ir];omega),bw];simp only [];have eh:i64.wrap ((u64.wrap (x/18446744073709551616)+u64.wrap (y/18446744073709551616)+(x%18446744073709551616+y%18446744073709551616+0)/18446744073709551616)%18446744073709551616)=(x+y)/18446744073709551616:=by
  rw [Kn,Ir,Ir];omega
 rw [eh];have rx:r64 (x/18446744073709551616):=by unfold r64;omega
 have ry:r64 (y/18446744073709551616):=by unfold r64;omega
 have rs:r64 ((x+y)/18446744073709551616):=by unfold r64;omega
 obtain⟨a1,a2⟩:=VE rx rs;obtain⟨b1,b2⟩:=VE ry rs;rw [aeV a2 b2,a1,b1];have hno:((decide (x/18446744073709551616<0) !=decide ((x+y)/18446744073709551616<0))&&(decide (y/18446744073709551616<0) !=decide ((x+y)/18446744073709551616<0)))=false:=by
  rw [zW];intro h;simp only [iX,yD,ne_eq,Rf]at h;omega
 have el:(x%18446744073709551616+y%18446744073709551616+0)%18446744073709551616=(x+y)%18446744073709551616:=by omega
 rw [hno,aR (by simp),el]
def YO(h:j9 v=true)(hk:v.Kind=2)(hr:r64 v.N):yC zV v=some (Fi v.N,0):=by
 unfold yC;rw [MG (v:=zV) rfl (.inl rfl),MG h (.inr hk),bw,bw,aR (by decide),aR (by decide),aR (by rw [hk];decide),bz (by rfl),Pw hr];rfl
def abE(h:j9 v=true)(hk:v.Kind=2)(hr:r64 v.N){z:Int}(hz:V3 z)(hz2:V3 (z+v.N)):yC (Fi z) v=some (Fi (z+v.N),0):=by
 unfold yC;have hs:V3 v.N:=by unfold r64 at hr;unfold V3;omega
 rw [MG (kind:=4) (Oj z) (.inr rfl),MG h (.inr hk),bw,bw,aR (by decide),aR (by decide),aR (by rw [hk];decide),aR (by show¬((4:Int)==0)=true;decide),Pw hr,bw,ZI hz hs hz2];rfl
def ae4{z:Int}(h:V3 z):DQ (Fi z)=some (if r64 z then(iV z,0)else(zV,140)):=by
 unfold V3 at h;unfold DQ;rw [MG (kind:=4) (Oj z) (.inr rfl),bw,aR (by decide),aR (by show¬((4:Int)==0)=true;decide)];have e:sZ (i64.wrap (Fi z).U)=some (iV (i64.wrap (z%18446744073709551616))):=rfl;have hw:r64 (i64.wrap (z%18446744073709551616)):=w7 _;rw [e,bw,Pw (v:=iV (i64.wrap (z%18446744073709551616))) hw,bw];by_cases hr:r64 z
 ·have:i64.wrap (z%18446744073709551616)=z:=by unfold r64 at hr;rw [Kn];omega
  rw [bz hr,this,bz (by simp [iV])]
 ·rw [aR hr,aR]
  ·rfl
  ·intro hh;have hh:=Kr hh;unfold Fi iV at hh;simp only [ac.mk.injEq,true_and,and_true]at hh;refine hr ?_;have I:=hh.1;unfold r64 at hw ⊢;generalize i64.wrap (z%18446744073709551616)=w at hh hw I;omega
def HX{ns:List av}(he:Nt ns)(hr:RT r):((BJ r ns).2=0/\Pl (BJ r ns).1)\/((BJ r ns).2≠0/\(BJ r ns).2≠140/\(BJ r ns).1=zV)\/BJ r ns=(zV,140):=by
 unfold BJ
 cases J:ll ns with
 |none=>right;left;exact⟨show(200:Int)≠0 by decide,show(200:Int)≠140 by decide,rfl⟩
 |some t=>
  obtain⟨hw,hN,hs⟩:=kH J;simp only [];by_cases hc:ze r ns=true
  ·rw [bz hc];have hrt:Cf t:=Gn t 0 (by rw [<-hN];exact he);have hcv:EO r t:=BO hr t hw 0 (by rw [<-hN];exact hc);rcases tX r t hw hrt hcv with h|h|h
   ·exact .inl h
   ·rw [h];right;left;decide
   ·exact .inr (.inr h)
  ·rw [aR hc];right;left;decide
def Nb(ns:List av)(rows:List cK):List ac:=rows.filterMap fun r=>if(BJ r ns).2=0/\(BJ r ns).1.Kind≠0 then some (BJ r ns).1 else none
def Tm(ns:List av)(rows:List cK):Bool:=rows.any fun r=>(BJ r ns).2 !=0&&(BJ r ns).2 !=140
def ST(ns:List av)(rows:List cK):Bool:=rows.any fun r=>(BJ r ns).2==140
def Si(tag:Int)(vs:List ac):Bool:=tag==3&&vs.any fun v=>v.Kind !=2
def Jw(rows:List cK):Prop:= ∀r∈rows,RT r
def S9(ns:List av)(r:cK)(t:List cK):Nb ns (r::t)=if(BJ r ns).2=0/\(BJ r ns).1.Kind≠0 then(BJ r ns).1::Nb ns t else Nb ns t:=by
 unfold Nb;rw [List.filterMap_cons];split
 ·split
  ·rename_i h;rw [bz (by simpa using h)]at*;simp_all
  ·rfl
 ·rename_i h;split
  ·rename_i M;rw [bz M]at h;simp at h;rw [h]
  ·rename_i M;rw [aR M]at h;simp at h
def QI{ns:List av}(he:Nt ns): ∀{rows:List cK},Jw rows-> ∀v∈Nb ns rows,Pl v
 |[],_,v,hv=>by simp [Nb]at hv
 |r::t,hr,v,hv=>by
  rw [S9]at hv;have J:Jw t:=fun x V=>hr x (ma _ V);split at hv
  ·rename_i h;rcases iW.1 hv with hv|hv
   ·subst hv;rcases HX he (hr r (md ..))with q|q|q
    ·exact q.2
    ·exact absurd h.1 q.1
    ·rw [q]at h;exact absurd h.1 (by decide)
   ·exact QI he J v hv
  ·exact QI he J v hv
def WS(ns:List av)(rows:List cK):(Nb ns rows).length<=rows.length:=List.length_filterMap_le ..
def Kg(a:jx)(hl:a.Arg.j'.length<=50000)(he:Nt a.Arg.j'): ∀(rows:List cK) (out:List ac) (fault:Int),Jw rows->out.length+rows.length<=1000000->ne a rows out fault=some (if Tm a.Arg.j' rows then([],2)else(out++Nb a.Arg.j' rows,if ST a.Arg.j' rows then 140 else fault))
 |[],out,fault,_,_=>by
  unfold ne Tm ST Nb;simp
 |r::t,out,fault,hr,hk=>by
  have J:Jw t:=fun x V=>hr x (ma _ V);rw [jo]at hk;unfold ne;rw [BH a.Arg r hl he (hr r (md ..)),bw,S9];have eb:Tm a.Arg.j' (r::t)=(((BJ r a.Arg.j').2 !=0&&(BJ r a.Arg.j').2 !=140)||Tm a.Arg.j' t):=rfl;have ef:ST a.Arg.j' (r::t)=(((BJ r a.Arg.j').2==140)||ST a.Arg.j' t):=rfl;rw [eb,ef];rcases HX he (hr r (md ..))with q|q|q
  ·rw [q.1];simp only [Int.reduceBEq,jM,gT,Int.reduceBNe,Kl,B6,true_and];by_cases hk0:(BJ r a.Arg.j').1.Kind=0
   ·rw [aR (by simp [hk0]),Kg a hl he t out fault J (by omega)];simp only [hk0,ne_eq,Rg,gT]
   ·rw [bz (by simpa using hk0),bz hk0,cF (by simp only [FT];omega),bw,Kg a hl he t _ fault J (by simp only [lj,FT];omega)];simp only [mj,Rk]
  ·rw [aR (by simpa using q.2.1),bz (by simpa using q.1)];have:((BJ r a.Arg.j').2 !=0&&(BJ r a.Arg.j').2 !=140)=true:=by simp [q.1,q.2.1]
   rw [this];simp
  ·rw [q];simp only [Ko,hM,Kg a hl he t out 140 J (by omega),Int.reduceBNe,Bool.and_false,B6,Bool.true_or];rw [aR (by decide: ¬((140:Int)=0/\_))];simp
def Nm:List ac->Int
 |[]=>0
 |v::t=>v.N+Nm t
def pick(tag:Int)(b v:ac):ac:=if tag=4/\val v b<0\/tag=5/\0<val v b then v else b
def Tk(tag:Int):List ac->ac
 |[]=>zV
 |v::t=>t.foldl (pick tag) v
def agy(vs:List ac):ac×Int:=if vs=[]then(zV,0)else if r64 (Nm vs)then(iV (Nm vs),0)else(zV,140)
def ag0(tag:Int)(vs:List ac)(fault:Int):ac×Int:=
 if fault≠0 then(zV,fault)else if tag=2 then(iV (vs.length:Int),0)else if tag=3 then agy vs else(Tk tag vs,0)
def Eh(a:jx)(rows:List cK):ac×Int:=
 if a.Tag=1 then(iV (rows.length:Int),0)else if Tm a.Arg.j' rows||Si a.Tag (Nb a.Arg.j' rows)then(zV,2)else ag0 a.Tag (Nb a.Arg.j' rows) (if ST a.Arg.j' rows then 140 else 0)
def abw(tag:Int): ∀(p:List ac),p≠[]->Tk tag p∈p
 |[],h=>absurd rfl h
 |v::t,_=>by
  unfold Tk;have: ∀(t:List ac) (b:ac),t.foldl (pick tag) b∈b::t:=by
   intro t
   induction t with
   |nil=>intro b;simp
   |cons x t ih=>
    intro b;simp only [List.foldl_cons];have:=ih (pick tag b x);have hp:pick tag b x=b\/pick tag b x=x:=by unfold pick;split<;>simp
    rcases hp with hp|hp<;>rw [hp]at this ⊢
    ·rcases iW.1 this with h|h
     ·rw [h];simp
     ·exact ma _ (ma _ h)
    ·exact ma _ this
  exact this t v
def aau(l:List ac)(h: ¬Si 3 l=true): ∀v∈l,v.Kind=2:=by
 intro v hv;unfold Si at h;simp only [Ko,Al,yE,FP]at h;simpa using h v hv
def Ih{f:ac->Option Bool}{g:ac->Bool}(hf: ∀v,f v=some (g v))(l:List ac):fW l f=some (l.any g):=by
 have key: ∀(l:List ac) (i:Nat),∃j:Int,eG f l i=some j/\decide (0<=j)=l.any g:=by
  intro l
  induction l with
  |nil=>intro i;exact⟨-1,rfl,rfl⟩
  |cons v t ih=>
   intro i;unfold eG;rw [hf,bw,BW];by_cases hg:g v=true
   ·rw [bz hg,hg];exact⟨(i:Int),rfl,by simp⟩
   ·rw [aR hg,zW.2 hg,B6];exact ih (i+1)
 obtain⟨j,I,M⟩:=key l 0;unfold fW jR;rw [I];simp only [bw];rw [<-M]
def wA{x y:ac}(V:j9 x=true)(hy:j9 y=true):lh x y=some (val x y):=by
 unfold lh;have I:oE [x]=true:=by unfold oE;simp [V]
 have M:oE [y]=true:=by unfold oE;simp [hy]
 rw [ER I M,bw];have:=aiT 0 0 0 0;unfold eZ;simp only [eZ];split<;>simp_all
def UL: ∀(l:List ac) (m:ac),(∀v∈l,j9 v=true)->j9 m=true->dR lh l m=some (l.foldl (pick 4) m)
 |[],m,_,_=>rfl
 |v::t,m,h,hm=>by
  have hv:=h v (md ..);have J:=fun x V=>h x (ma v V);unfold dR;rw [wA hv hm,bw,List.foldl_cons];by_cases hc:val v m<0
  ·rw [bz (by simpa using hc),UL t v J hv];simp [pick,hc]
  ·rw [aR (by simpa using hc),UL t m J hm];simp [pick,hc]
def UM: ∀(l:List ac) (m:ac),(∀v∈l,j9 v=true)->j9 m=true->dS lh l m=some (l.foldl (pick 5) m)
 |[],m,_,_=>rfl
 |v::t,m,h,hm=>by
  have hv:=h v (md ..);have J:=fun x V=>h x (ma v V);unfold dS;rw [wA hv hm,bw,List.foldl_cons];by_cases hc:0<val v m
  ·rw [bz (by simpa using hc),UM t v J hv];simp [pick,hc]
  ·rw [aR (by simpa using hc),UM t m J hm];simp [pick,hc]
def ai5(v:α)(t:List α):cO (v::t) (0:Int)=some v:=rfl
def agM{l:List ac}(h: ∀v∈l,j9 v=true)(hne:l≠[]):iu l lh=some (Tk 4 l):=by
 cases l with
 |nil=>exact absurd rfl hne
 |cons v t=>
  unfold iu jA;rw [aR (by rw [jo,nE];omega),ai5,bw];exact UL t v (fun x V=>h x (ma v V)) (h v (md ..))
def agN{l:List ac}(h: ∀v∈l,j9 v=true)(hne:l≠[]):iv l lh=some (Tk 5 l):=by
 cases l with
 |nil=>exact absurd rfl hne
 |cons v t=>
  unfold iv jB;rw [aR (by rw [jo,nE];omega),ai5,bw];exact UM t v (fun x V=>h x (ma v V)) (h v (md ..))
def abC(x:ac): ∀(l:List ac) (z:Int) (n:Nat),(∀v∈l,Pl v/\v.Kind=2)->z.natAbs<=n*9223372036854775808->n+l.length<=100000->qP l x (Fi z)=some (if r64 (z+Nm l)then(iV (z+Nm l),0)else(zV,140))
 |[],z,n,_,hz,hn=>by
  have hz2:V3 z:=by unfold V3;omega
  unfold qP;rw [ae4 hz2,bw];simp only [Nm,Int.add_zero]
 |v::t,z,n,h,hz,hn=>by
  rw [jo]at hn;obtain⟨hv,hk⟩:=h v (md ..);have hr:=hv.r64;have H:(z+v.N).natAbs<=(n+1)*9223372036854775808:=by unfold r64 at hr;omega
  unfold qP;rw [abE hv.right hk hr (z:=z) (by unfold V3;omega) (by unfold V3;omega),bw,aR (by show¬((0:Int) !=0)=true;decide)];have e:z+Nm (v::t)=z+v.N+Nm t:=by simp only [Nm];omega
  rw [abC x t (z+v.N) (n+1) (fun y hy=>h y (ma _ hy)) H (by omega),e]
def QR{l:List ac}(h: ∀v∈l,Pl v/\v.Kind=2)(hl:l.length<=90000):DS l=some (agy l):=by
 unfold DS;rw [aR (by simp;omega)];have:uj=some zV:=rfl;rw [this,bw]
 cases l with
 |nil=>rfl
 |cons v t=>
  obtain⟨hv,hk⟩:=h v (md ..);have hr:=hv.r64;rw [jo]at hl;unfold qP;rw [YO hv.right hk hr,bw,aR (by show¬((0:Int) !=0)=true;decide)];rw [abC _ t v.N 1 (fun y hy=>h y (ma _ hy)) (by unfold r64 at hr;omega) (by omega)];rfl
def Ef(a:jx)(hl:a.Arg.j'.length<=50000)(he:Nt a.Arg.j')(J:a.Tag=1\/a.Tag=2\/a.Tag=3\/a.Tag=4\/a.Tag=5){rows:List cK}(hr:Jw rows)(hn:rows.length<=90000):qb a rows=some (Eh a rows):=by
 unfold qb Eh;by_cases I:a.Tag=1
 ·rw [bz (by simpa using I),bz I];rfl
 ·rw [aR (by simpa using I),aR I];have e:C8 a rows=_:=Kg a hl he rows [] 0 hr (by simp only [ug];omega);rw [e,bw];by_cases H:Tm a.Arg.j' rows=true
  ·rw [H];rfl
  ·rw [zW.2 H];simp only [jM,gT,B6,kW];rw [aR (by split<;>decide),Ih (f:=qM) (g:=fun v=>v.Kind !=2) (fun v=>rfl)];have eo:(if(a.Tag==(3:Int))then((some ((Nb a.Arg.j' rows).any fun v=>v.Kind !=2)).bind fun r2=>some r2)else some false)=some (Si a.Tag (Nb a.Arg.j' rows)):=by
    unfold Si;cases (a.Tag==(3:Int))<;>rfl
   rw [eo,bw];by_cases ho:Si a.Tag (Nb a.Arg.j' rows)=true
   ·rw [ho];rfl
   ·rw [zW.2 ho];simp only [jM,gT];unfold ag0;have hpl:=QI he hr;have hlen:=WS a.Arg.j' rows;by_cases hf:ST a.Arg.j' rows=true
    ·rw [hf];rfl
    ·rw [zW.2 hf];simp only [jM,gT,ne_eq,Rg,FY];by_cases M:a.Tag=2
     ·rw [bz (by simpa using M),bz M];rfl
     ·rw [aR (by simpa using M),aR M];by_cases h3:a.Tag=3
      ·rw [bz (by simpa using h3),bz h3];rw [h3]at ho;rw [QR (fun v hv=>⟨hpl v hv,aau _ ho v hv⟩) (by omega)];rfl
      ·rw [aR (by simpa using h3),aR h3];by_cases hz:Nb a.Arg.j' rows=[]
       ·rw [hz,bz (by rfl)];rfl
       ·rw [aR (by
         intro hh;apply hz;have:=eq_of_beq hh;exact Ao (by omega))]
        have hrt: ∀v∈Nb a.Arg.j' rows,j9 v=true:=fun v hv=>(hpl v hv).right;by_cases h4:a.Tag=4
        ·rw [bz (by simpa using h4),h4,agM hrt hz];rfl
        ·have h5:a.Tag=5:=by omega
         rw [aR (by simpa using h4),h5,agN hrt hz];rfl
def EG(l:List cK)(c:List Int):Bool:=decide (c.length<=16)&&c.all (fun e=>decide (0<=e))&&l.all (fun r=>sw r c)
def BR(l:List cK)(c:List Int):Int:=if uY l then(if EG l c then 0 else 2)else 150
def Jk(c:List Int): ∀l:List cK,vu c l=some (if l.all (fun r=>sw r c)then 0 else 2)
 |[]=>rfl
 |r::l=>by
  unfold vu;rw [Um,bw,Jk c l,xr];cases sw r c<;>rfl
def Np(h:l.length<=8000)(c:List Int):Dp l c=some (BR l c):=by
 unfold Dp BR;rw [Bm,Px l h,bw]
 cases uY l with
 |false=>simp
 |true=>
  rw [bz rfl,aR (by decide),nN (f:=zz) (g:=fun c=>decide (c<(0:Int))) (fun v=>rfl),bz rfl];have hn:c.all (fun e=>decide (0<=e))= !c.any (fun e=>decide (e<(0:Int))):=by
   rw [List.not_any_eq_all_not];congr 1;funext e;rw [ES];simp only [nE,Hh,Kt];omega
  unfold EG;by_cases hc:c.length<=16
  ·rw [bz (by simp;omega),bw,bw,Cl hc,hn,Jk];cases c.any (fun e=>decide (e<(0:Int)))<;>cases l.all (fun r=>sw r c)<;>rfl
  ·rw [aR (by simp;omega),bw,El hc];rfl
def Dy(h:EG l c=true){r:cK}(hr:r∈l):sw r c=true:=by
 unfold EG at h;rw [iX,mN]at h;exact h.2 r hr
def Tn(h:BR l c=0):uY l=true/\EG l c=true:=by
 unfold BR at h;cases I:uY l<;>cases M:EG l c<;>simp_all
def jz(c:List Int)(r:cK):cK:=(sj r c).getD []
def Dk{r:cK}(h:sw r c=true):sj r c=some (jz c r)/\(jz c r).length=c.length/\ ∀v∈jz c r,v∈r:=by
 unfold sw at h;rw [iX,nE,mN]at h;obtain⟨t,g1,g2,g3,g4⟩:=KM r c [] (fun e he=>by have:=h.2 e he;rw [iX,nE,nE]at this;exact this) (by simp;omega);have e:sj r c=some t:=g3;unfold jz;rw [e];exact⟨rfl,by simpa using g1,fun v hv=>(g2 v hv).elim (fun h=>by cases h) id⟩
def CZ(c:List Int)(a b:cK):Int:=Ra (eZ (jz c a) (jz c b)) (eZ a b)
def SQ(c:List Int):Ij (CZ c):=
 have h:=Ij.lex fe fe
 ⟨fun x y=>h.rng (jz c x,x) (jz c y,y),fun x y=>h.anti (jz c x,x) (jz c y,y),fun x y=>(h.eq (jz c x,x) (jz c y,y)).trans ⟨fun e=>(Prod.mk.injEq ..▸e).2,fun e=>by rw [e]⟩,fun x y z=>h.trans (jz c x,x) (jz c y,y) (jz c z,z)⟩
def TF{a b:cK}(ha:sw a c=true)(H:sw b c=true):qu c a b=some (CZ c a b):=by
 unfold qu;rw [(Dk ha).1,(Dk H).1];simp only [bw,Bl,H7,orL];unfold CZ Ra;congr 1;by_cases h:eZ (jz c a) (jz c b)=0
 ·by_cases M:eZ a b=0<;>simp [h,M]
 ·simp [h]
def TE{a b:cK}(ha:sw a c=true)(H:sw b c=true):jE c a b=some (decide (jz c a=jz c b)):=by
 unfold jE;rw [(Dk ha).1,(Dk H).1];simp only [bw,Bn]
def LW{α:Type}{lt lt' :α->α->Bool}(x:α): ∀l:List α,(∀y∈l,lt y x=lt' y x)->Qg lt x l=Qg lt' x l
 |[],_=>rfl
 |y::l,h=>by
  unfold Qg;rw [h y (md ..),LW x l fun z hz=>h z (ma _ hz)]
def IT{α:Type}{lt lt' :α->α->Bool}: ∀l:List α,(∀x∈l,∀y∈l,lt x y=lt' x y)->EH lt l=EH lt' l
 |[],_=>rfl
 |x::l,h=>by
  unfold EH;rw [<-IT l fun y hy z hz=>h y (ma _ hy) z (ma _ hz)];exact LW x _ fun y hy=>h y (ma _ ((y8 lt l).mem_iff.1 hy)) x (md ..)
def RC [DecidableEq α](h:Ij f){c:α×α->Option Int}{l:List α}(hc: ∀x∈l,∀y∈l,c (x,y)=some (f x y))(hl:l.length<=1099511627776):Ey c l=some (zr f l):=by
 have hg:=Dh h (c:=fun p=>some (f p.1 p.2)) (fun _ _=>rfl) hl;have hlt: ∀x∈l,∀y∈l,Af c x y=Af (fun p:α×α=>some (f p.1 p.2)) x y:=fun x V y hy=>by unfold Af;rw [hc x V y hy]
 have hg' :FJ c l:=⟨hl,fun x V y hy=>by rw [hc x V y hy];rfl,fun x V=>by rw [hlt x V x V];exact hg.irr x V,
  fun x V y hy z hz I M=>by rw [hlt x V y hy]at I;rw [hlt y hy z hz]at M;rw [hlt x V z hz];exact hg.tr x V y hy z hz I M,
  fun x V y hy I M=>by rw [hlt x V y hy]at I;rw [hlt y hy x V]at M;exact hg.anti x V y hy I M⟩
 rw [KR hg',IT l hlt];rfl
def Az(al:cK->cK->Bool):Nat->List cK->List (List cK)
 |0,_=>[]
 |_+1,[]=>[]
 |k+1,x::t=>(x::t.takeWhile (al x))::Az al k (t.dropWhile (al x))
def Ld{Sg:Type}{alike:cK->cK->Option Bool}{al:cK->cK->Bool}(yld:List cK->Sg->Option (Bool×Sg))(nx:Sg->List cK->Option Sg)(s:Sg)(x:cK)(t:List cK)(hal: ∀y∈t,alike x y=some (al x y))(J:t.length<=8000):
  ∀(rest pre:List cK) (fuel:Nat),t=pre++rest->rest.length<fuel->q8 alike yld nx s (x::t) fuel ((1+pre.length:Nat):Int)=(yld (x::(pre++rest.takeWhile (al x))) s).bind fun r=>if(!r.1)then some r.2 else nx r.2 (rest.dropWhile (al x))
 |rest,pre,0,_,h=>by omega
 |[],pre,fuel+1,e,_=>by
  rw [vb]at e;subst e;unfold q8;rw [aR (by simp;omega),bw,aR (by decide),show(0:Int)=((0:Nat):Int)from rfl,pL (by omega) (by simp;omega),bw];rw [pL (by simp;omega) (kG _)];simp only [bw,List.takeWhile_nil,List.dropWhile_nil,vb,xu];rw [rO (by simp;omega),rO (kG _),Hi (by simp;omega)]
 |b::rest,pre,fuel+1,e,hf=>by
  have hlen:t.length=pre.length+rest.length+1:=by rw [e];simp;omega
  have H:cO (x::t) ((1+pre.length:Nat):Int)=some b:=by
   rw [cG,Nat.add_comm,VD,e];simp
  unfold q8;rw [bz (by simp;omega),show cO (x::t) 0=some x from rfl,bw,H,bw,hal b (by rw [e];simp),bw,bw]
  cases hb2:al x b with
  |true=>
   rw [bz rfl,cB (by omega) (by omega),show(((1+pre.length:Nat):Int)+1)=((1+(pre++[b]).length:Nat):Int) by simp;omega];rw [Ld yld nx s x t hal J rest (pre++[b]) fuel (by rw [e];simp) (by simp at hf;omega)];simp [List.takeWhile_cons,List.dropWhile_cons,hb2]
  |false=>
   rw [aR (by decide),show(0:Int)=((0:Nat):Int)from rfl,pL (by omega) (by simp;omega),bw];rw [pL (by simp;omega) (kG _)];simp only [bw,xu];rw [rO (l:=x::t) (kG _)];have e1:(x::t).take (1+pre.length)=x::pre:=by rw [Nat.add_comm,List.take_succ_cons,e];simp
   have e2:(x::t).drop (1+pre.length)=b::rest:=by rw [Nat.add_comm,List.drop_succ_cons,e];simp
   rw [e1,e2];simp [List.takeWhile_cons,List.dropWhile_cons,hb2]
def Ma(c:List Int)(y:List cK):k6:=⟨jz c (y.headD []),y⟩
def NI(c:List Int)(a b:cK):Bool:=decide (jz c a=jz c b)
def Le(c:List Int): ∀(k fuel:Nat) (l:List cK) (out:List k6),(∀r∈l,sw r c=true)->l.length<=k->l.length<fuel->out.length+l.length<=8000->
  nY (jE c) (Ji (fun x s=>nZ c x s)) fuel out l=some (out++(Az (NI c) k l).map (Ma c))
 |k,0,l,out,_,_,h,_=>by omega
 |k,fuel+1,[],out,_,_,_,_=>by
  unfold nY;rw [aR (by simp)];cases k<;>simp [Az]
 |0,fuel+1,x::t,out,_,h,_,_=>by simp at h
 |k+1,fuel+1,x::t,out,h,hk,hf,ho=>by
  simp only [jo]at hk hf ho;have V:=h x (md ..);have hsub: ∀r∈t.dropWhile (NI c x),r∈t:=fun r hr=>(Rl _).subset hr;have hdl:(t.dropWhile (NI c x)).length<=t.length:=(Rl _).length_le;have htl:(t.takeWhile (NI c x)).length<=t.length:=(List.takeWhile_sublist _).length_le;unfold nY;rw [bz (by simp),show(1:Int)=((1+([]:List cK).length:Nat):Int)from rfl,
   Ld (al:=NI c) _ _ out x t (fun y hy=>TE V (h y (ma _ hy))) (by omega) t [] jl rfl (by unfold jl;omega)]
  rw [kW];have H:nZ c (x::t.takeWhile (NI c x)) out=some (out++[Ma c (x::t.takeWhile (NI c x))]):=by
   unfold nZ iI;rw [show cO (x::t.takeWhile (NI c x)) 0=some x from rfl,bw,(Dk V).1,bw,aeS (by simp;omega),bw,bw,cF (by simp;omega)];rfl
  have hb2:Ji (fun x s=>nZ c x s) (x::t.takeWhile (NI c x)) out=some (true,out++[Ma c (x::t.takeWhile (NI c x))]):=by
   show Option.map _ (nZ c (x::t.takeWhile (NI c x)) out)=_;rw [H];rfl
  rw [hb2];simp only [bw,rM,jM,gT];have ih:=Le c k fuel (t.dropWhile (NI c x)) (out++[Ma c (x::t.takeWhile (NI c x))]) (fun r hr=>h r (ma _ (hsub r hr))) (by omega) (by omega) (by simp;omega);rw [ih];simp [Az]
def Ns(h:Pa l)(c:List Int):yP l c=some (if BR l c=0 then((Az (NI c) l.length (zr (CZ c) l)).map (Ma c),0)else([],BR l c)):=by
 unfold yP;have hlen:=h.len;rw [Np h.len,bw];by_cases ha:BR l c=0
 ·obtain⟨_,hok⟩:=Tn ha;rw [aR (by simp [ha]),bz ha,EB l (fun r hr=>by have:=h.row r hr;omega) (by omega),bw];rw [RC (SQ c) (fun x V y hy=>TF (Dy hok V) (Dy hok hy)) (by omega),bw];unfold Lm;rw [bw];unfold Bj;have hl:=zy (CZ c) l;show((nY (jE c) (Ji fun x s=>nZ c x s) jl [] (zr (CZ c) l)).bind fun xs1=>some (xs1,(0:Int)))=_;rw [Le c l.length jl (zr (CZ c) l) [] (fun r hr=>Dy hok ((jb _ _).mem_iff.1 hr)) (by omega) (by unfold jl;omega) (by simp;omega)];rfl
 ·rw [bz (by simp [ha]),aR ha]
def Og(al:cK->cK->Bool): ∀(k:Nat) (l:List cK),l.length<=k->(Az al k l).flatten=l
 |0,l,h=>by
  have:l=[]:=Ao (by omega);subst this;rfl
 |k+1,[],_=>rfl
 |k+1,x::t,h=>by
  have hdl:(t.dropWhile (al x)).length<=t.length:=(Rl _).length_le;unfold Az;rw [List.flatten_cons,Og al k _ (by simp at h;omega),B7,List.takeWhile_append_dropWhile]
def Lc(al:cK->cK->Bool): ∀(k:Nat) (l:List cK) (y:List cK),y∈Az al k l-> ∃x t,y=x::t/\x∈l/\ ∀z∈t,z∈l/\al x z=true
 |0,l,y,h=>by cases h
 |k+1,[],y,h=>by cases h
 |k+1,x::t,y,h=>by
  unfold Az at h;rcases iW.1 h with rfl|h
  ·exact⟨x,_,rfl,md ..,fun z hz=>⟨ma _ ((List.takeWhile_sublist _).subset hz),by simpa using mN.1 (List.all_takeWhile (p:=al x) (l:=t)) z hz⟩⟩
  ·obtain⟨x',t',e,I,M⟩:=Lc al k _ y h;have hsub: ∀r∈t.dropWhile (al x),r∈t:=fun r hr=>(Rl _).subset hr;exact⟨x',t',e,ma _ (hsub _ I),fun z hz=>⟨ma _ (hsub _ (M z hz).1),(M z hz).2⟩⟩
def Wm{a b:cK}(h:CZ c a b<=0):eZ (jz c a) (jz c b)<=0:=by
 unfold CZ Ra at h;split at h
 ·exact h
 ·rename_i M;simp at M;omega
def WW(c:List Int)(x:cK): ∀t:List cK,yh (CZ c) (x::t)-> ∀z∈t.dropWhile (NI c x),eZ (jz c x) (jz c z)<0
 |[],_,z,hz=>by cases hz
 |b::t,hs,z,hz=>by
  have hs' :=yF.1 hs;have hs2:=yF.1 hs'.2;rw [List.dropWhile_cons]at hz;split at hz
  ·exact WW c x t (yF.2 ⟨fun w hw=>hs'.1 w (ma _ hw),hs2.2⟩) z hz
  ·rename_i H;have hlt:eZ (jz c x) (jz c b)<0:=by
    have I:=Wm (hs'.1 b (md ..));rcases Int.lt_or_eq_of_le I with h|h
    ·exact h
    ·exact absurd (Cl ((fe.eq _ _).1 h)) H
   rcases iW.1 hz with rfl|hz
   ·exact hlt
   ·exact fe.lt (Int.le_of_lt hlt) (Wm (hs2.1 z hz)) (.inl hlt)
def Oe(c:List Int): ∀(k:Nat) (l:List cK),yh (CZ c) l->((Az (NI c) k l).map (Ma c)).Pairwise (fun a b=>eZ a.Key b.Key<0)
 |0,l,_=>List.Pairwise.nil
 |k+1,[],_=>List.Pairwise.nil
 |k+1,x::t,hs=>by
  unfold Az;rw [va];have hs' :=yF.1 hs;refine yF.2 ⟨fun g hg=>?_,Oe c k _ (hs'.2.sublist (Rl _))⟩;obtain⟨y,hy,rfl⟩:=rL.1 hg;obtain⟨x',t',rfl,I,_⟩:=Lc _ _ _ y hy;exact WW c x t hs x' I
def atR(r:cK)(c:Int):ac:=(r[c.toNat]?).getD zV
def sgO(o:kU)(n:Int):Int:=if o.Q_ then -n else n
def O3:List kU->cK->cK->Int
 |[],a,b=>eZ a b
 |o::t,a,b=>Ra (sgO o (val (atR a o.X') (atR b o.X'))) (O3 t a b)
def acg(o:kU):Ij (fun x y=>sgO o (val x y)):=by
 have h:=xL;unfold sgO
 cases o.Q_ with
 |false=>exact h
 |true=>
  refine⟨fun x y=>?_,fun x y=>?_,fun x y=>?_,fun x y z I M=>?_⟩
  ·rcases h.rng x y with q|q|q<;>simp [q]
  ·have:=h.anti x y;simp [this]
  ·simp only [hM];rw [<-h.eq x y];omega
  ·simp only [hM]at I M ⊢;have a1:=h.anti x y;have a2:=h.anti y z;have a3:=h.anti x z;have:=h.trans z y x (by omega) (by omega);omega
def OZ: ∀order:List kU,Ij (O3 order)
 |[]=>fe
 |o::t=>
  have h:=Ij.lex (acg o) (OZ t)
  ⟨fun x y=>h.rng (atR x o.X',x) (atR y o.X',y),fun x y=>h.anti (atR x o.X',x) (atR y o.X',y),fun x y=>(h.eq (atR x o.X',x) (atR y o.X',y)).trans ⟨fun e=>(Prod.mk.injEq ..▸e).2,fun e=>by rw [e]⟩,fun x y z=>h.trans (atR x o.X',x) (atR y o.X',y) (atR z o.X',z)⟩
def okO(order:List kU)(r:cK):Bool:=order.all fun o=>decide (0<=o.X')&&decide (o.X'<(r.length:Int))
def Qi{r:cK}{c:Int}(h:0<=c)(M:c<(r.length:Int)):cO r c=some (atR r c):=by
 obtain⟨k,hk⟩:=NW h;subst hk;have hk:k<r.length:=by omega
 unfold atR;rw [mE k rfl];simp [hk]
def O6{r:cK}(hr:oE r=true){c:Int}(h:0<=c)(M:c<(r.length:Int)):j9 (atR r c)=true:=by
 have hm:atR r c∈r:=by
  obtain⟨k,hk⟩:=NW h;subst hk;have hk:k<r.length:=by omega
  unfold atR;simp [hk]
 unfold oE at hr;simp only [iX,mN]at hr;exact hr.2 _ hm
def acf{β:Type}(o:kU){n:Int}(h:n= -1\/n=0\/n=1)(f:Int->β):(if o.Q_ then f (i64.wrap (0-n))else f n)=f (sgO o n):=by
 unfold sgO
 cases o.Q_ with
 |false=>rfl
 |true=>rcases h with h|h|h<;>subst h<;>rfl
def Sf{o:kU}{t:List kU}{r:cK}(h:okO (o::t) r=true):0<=o.X'/\o.X'<(r.length:Int)/\okO t r=true:=by
 unfold okO at h ⊢;rw [xr]at h;simp only [iX,nE]at h;exact⟨h.1.1,h.1.2,h.2⟩
def afU{a b:cK}(ha:oE a=true)(H:oE b=true): ∀order:List kU,okO order a=true->okO order b=true->sL order a b=some (O3 order a b)
 |[],_,_=>by
  unfold sL nd;rw [ER ha H];rfl
 |o::t,I,M=>by
  obtain⟨p1,p2,p3⟩:=Sf I;obtain⟨q1,q2,q3⟩:=Sf M;have ih:=afU ha H t p3 q3;unfold sL at ih ⊢;unfold nd;rw [Qi p1 p2,Qi q1 q2,bw,bw,wA (O6 ha p1 p2) (O6 H q1 q2),bw];have hs:=acf o (xL.rng (atR a o.X') (atR b o.X')) (sK (nd a b t));rw [hs,ih];unfold sK;show _=some (Ra _ _);unfold Ra;split<;>rfl
def Vf(limit:Int)(l:List cK):List cK:=if 0<=limit/\limit<(l.length:Int)then l.take limit.toNat else l
def ah4(limit:Int)(l:List cK)(k:List cK->Option (List cK))(hk: ∀x,k x=some x):(if((decide ((0:Int)<=limit))&&(decide (limit<(l.length:Int))))then((df l 0 limit).bind fun y=>k y)else k l)=some (Vf limit l):=by
 unfold Vf;by_cases h:0<=limit/\limit<(l.length:Int)
 ·rw [bz (by simp [h.1,h.2]),bz h,jD (xs:=l) (i:=0) (j:=limit) 0 limit.toNat rfl (by omega) (nh _) (by omega),bw,hk];simp
 ·rw [aR (by simp only [iX,nE];exact h),aR h,hk]
structure Vu(order:List kU)(l:List cK):Prop where
 right: ∀r∈l,oE r=true
 cols: ∀r∈l,okO order r=true
def N9(order:List kU)(limit:Int): ∀(rows out:List cK),Vu order (out++rows)->out.length+rows.length<=1000000->ou order limit rows out=some (Vf limit (zr (O3 order) (out++rows)))
 |[],out,h,hl=>by
  unfold ou;rw [vb]at h ⊢;have e:H2 order=some (sL order):=rfl;rw [e,bw];rw [RC (OZ order) (fun x V y hy=>by exact afU (h.right x V) (h.right y hy) order (h.cols x V) (h.cols y hy)) (by simp at hl;omega),bw];exact ah4 limit _ tm (fun _=>rfl)
 |r::t,out,h,hl=>by
  rw [jo]at hl;unfold ou;have hr:=Uo (h.right r (by simp));rw [Ik r (by omega),bw,cF (by simp;omega),bw,N9 order limit t (out++[r]) (by rwa [mj,Rk]) (by simp only [lj,FT];omega)];rw [mj,Rk]
def H1{order:List kU}{rows:List cK}(h:Vu order rows)(hl:rows.length<=1000000)(limit:Int):tY rows order limit=some (Vf limit (zr (O3 order) rows)):=by
 unfold tY;rw [N9 order limit rows [] (by simpa using h) (by simpa using hl)];rfl
def Dj{i:Nat}(h:i<=100000):i64.wrap ((i:Int)+1)=((i+1:Nat):Int):=by rw [wR (by omega) (by omega)];omega
def V9(n:ai): ∀(fu:Nat) (ok:Bool) (i:Int) (k:List Int),dY n fu ok i=some (k,true)->ok=true/\0<=n.Table/\n.Table<=3/\k=n.P'
 |0,_,_,_,h=>by unfold dY at h;cases h
 |fu+1,ok,i,k,h=>by
  unfold dY at h;split at h
  ·cases ok with
   |false=>
    simp only [jM,gT,bw]at h;exact absurd (V9 n fu false _ k h).1 (by simp)
   |true=>
    simp only [hM]at h
    cases V:cO n.P' i with
    |none=>rw [V]at h;cases h
    |some e=>
     rw [V]at h;simp only [bw]at h;split at h
     ·exact⟨rfl,(V9 n fu _ _ k h).2⟩
     ·exact⟨rfl,(V9 n fu _ _ k h).2⟩
  ·injection h with h;injection h with h M;simp only [iX,nE]at M;exact⟨M.1.1.1.1,M.1.1.1.2,M.1.1.2,h.symm⟩
def afl(n:ai)(a:List Int)(hs:n.M'.length<=5000): ∀(l:List jx) (fu:Nat) (out:List Int) (ok:Bool) (i:Nat) (k:List Int),n.M'.drop i=l->ez n a fu out ok (i:Int)=some (k,true)->ok=true/\(∀g∈l,(G4 g a).2=true)/\k=out++(l.map fun g=>(G4 g a).1)/\n.Q'.length<=3
 |_,0,_,_,_,_,_,h=>by unfold ez at h;cases h
 |[],fu+1,out,ok,i,k,hd,h=>by
  unfold ez at h;have:=xg hd;rw [aR (by rw [nE];omega)]at h;injection h with h;injection h with h M;simp only [iX,nE]at M;exact⟨M.1.1.1,by simp,by simp [h],by have:=M.1.1.2;omega⟩
 |g::t,fu+1,out,ok,i,k,hd,h=>by
  obtain⟨I,M,h3⟩:=kp hd;unfold ez at h;rw [bz (by rw [nE];omega),I,bw,ur,bw,Dj (by omega)]at h
  cases ha:app out [(G4 g a).1]with
  |none=>rw [ha]at h;cases h
  |some z=>
   rw [ha,bw]at h;obtain⟨p1,p2,p3,p4⟩:=afl n a hs t fu z _ (i+1) k h3 h;rw [iX]at p1;refine⟨p1.1,?_,?_,p4⟩
   ·intro y hy;rcases iW.1 hy with q|q
    ·rw [q];exact p1.2
    ·exact p2 y q
   ·rw [p3,sT ha];simp
def LV(a:List Int)(c:Int):Int:=(a[c.toNat]?).getD 0
def aaj{a:List Int}{c:Int}(h:0<=c)(M:c<(a.length:Int)):cO a c=some (LV a c):=by
 obtain⟨k,hk⟩:=NW h;subst hk;have hk:k<a.length:=by omega
 unfold LV;rw [mE k rfl];simp [hk]
def afk(n:ai)(a:List Int)(hs:n.Q'.length<=5000)(hs2:n.M'.length<=5000): ∀(l:List Int) (fu:Nat) (out:List Int) (i:Nat) (k:List Int),n.Q'.drop i=l->eC n a fu out (i:Int)=some (k,true)->(∀c∈l,0<=c/\c<(a.length:Int))/\(∀g∈n.M',(G4 g a).2=true)/\k=(out++l.map (LV a))++(n.M'.map fun g=>(G4 g a).1)/\n.Q'.length<=3
 |_,0,_,_,_,_,h=>by unfold eC at h;cases h
 |[],fu+1,out,i,k,hd,h=>by
  unfold eC at h;have:=xg hd;rw [aR (by rw [nE];omega)]at h;obtain⟨_,p2,p3,p4⟩:=afl n a hs2 n.M' jl out true 0 k (by simp) h;exact⟨by simp,p2,by simpa using p3,p4⟩
 |c::t,fu+1,out,i,k,hd,h=>by
  obtain⟨I,M,h3⟩:=kp hd;unfold eC at h;rw [bz (by rw [nE];omega),I,bw,Dj (by omega)]at h;by_cases hc:0<=c/\c<(a.length:Int)
  ·rw [aR (by simp only [xv,nE];omega),aaj hc.1 hc.2,bw]at h
   cases ha:app out [LV a c]with
   |none=>rw [ha]at h;cases h
   |some z=>
    rw [ha,bw]at h;obtain⟨p1,p2,p3,p4⟩:=afk n a hs hs2 t fu z (i+1) k h3 h;refine⟨?_,p2,?_,p4⟩
    ·intro y hy;rcases iW.1 hy with q|q
     ·rw [q];exact hc
     ·exact p1 y q
    ·rw [p3,sT ha];simp
  ·rw [bz (by simp only [xv,nE];omega)]at h;injection h with h;injection h with h M;cases M
def afj(n:ai)(a:List Int)(hs:n.I'.length<=5000): ∀(l:List au) (fu:Nat) (out:List Int) (ok:Bool) (i:Nat) (k:List Int),n.I'.drop i=l->dw n a fu out ok (i:Int)=some (k,true)->ok=true/\(∀e∈l,(eM e a).2=0)/\k=out++l.map fun e=>(eM e a).1
 |_,0,_,_,_,_,_,h=>by unfold dw at h;cases h
 |[],fu+1,out,ok,i,k,hd,h=>by
  unfold dw at h;have:=xg hd;rw [aR (by rw [nE];omega)]at h;injection h with h;injection h with h M;simp only [iX,nE]at M;exact⟨M.1.1,by simp,by simp [h]⟩
 |g::t,fu+1,out,ok,i,k,hd,h=>by
  obtain⟨I,M,h3⟩:=kp hd;unfold dw at h;rw [bz (by rw [nE];omega),I,bw,n7,bw,Dj (by omega)]at h
  cases ha:app out [(eM g a).1]with
  |none=>rw [ha]at h;cases h
  |some z=>
   rw [ha,bw]at h;obtain⟨p1,p2,p3⟩:=afj n a hs t fu z _ (i+1) k h3 h;simp only [iX,xq]at p1;refine⟨p1.1,?_,?_⟩
   ·intro y hy;rcases iW.1 hy with q|q
    ·rw [q];exact p1.2
    ·exact p2 y q
   ·rw [p3,sT ha];simp
def V7(n:ai)(a:List Int)(hs:n.R'.length<=5000): ∀(l:List kU) (fu:Nat) (ok:Bool) (i:Nat) (k:List Int),n.R'.drop i=l->dJ n a fu ok (i:Int)=some (k,true)->ok=true/\k=a/\ ∀o∈l,0<=o.X'/\o.X'<(a.length:Int)
 |_,0,_,_,_,_,h=>by unfold dJ at h;cases h
 |[],fu+1,ok,i,k,hd,h=>by
  unfold dJ at h;have:=xg hd;rw [aR (by rw [nE];omega)]at h;injection h with h;injection h with h M;simp only [iX,nE]at M;exact⟨M.1.1.1,h.symm,by simp⟩
 |o::t,fu+1,ok,i,k,hd,h=>by
  obtain⟨I,M,h3⟩:=kp hd;unfold dJ at h;rw [bz (by rw [nE];omega),I,Dj (by omega)]at h
  cases ok with
  |false=>
   simp only [jM,gT,bw]at h;exact absurd (V7 n a hs t fu false (i+1) k h3 h).1 (by simp)
  |true=>
   simp only [hM,bw]at h;by_cases hc:0<=o.X'
   ·rw [bz (by simpa using hc),bw]at h;obtain⟨p1,p2,p3⟩:=V7 n a hs t fu _ (i+1) k h3 h;refine⟨rfl,p2,?_⟩;intro y hy;rcases iW.1 hy with q|q
    ·rw [q];exact⟨hc,by simpa using p1⟩
    ·exact p3 y q
   ·rw [aR (by simpa using hc),bw]at h;exact absurd (V7 n a hs t fu false (i+1) k h3 h).1 (by simp)
def Wp(x y k:Int):Prop:=(x=k\/x=0)/\(y=k\/y=0)
def V8(b:List Int)(H:b.length<=5000): ∀(l:List Int) (i:Nat) (out:List Int) (ok:Bool) (k:List Int),l.length+i=b.length->fg b l i out ok=some (k,true)->ok=true/\ ∃t:List Int,k=out++t/\t.length=l.length/\ ∀(j:Nat) (x y z:Int),l[j]? =some x->b[i+j]? =some y->t[j]? =some z->Wp x y z
 |[],i,out,ok,k,_,h=>by
  unfold fg at h;injection h with h;injection h with h M;exact⟨M,[],by simp [h],rfl,by simp⟩
 |x::l,i,out,ok,k,hl,h=>by
  rw [jo]at hl;have hib:i<b.length:=by omega
  have hi:cO b (i:Int)=some b[i]:=by rw [mE i rfl,qg hib]
  have key: ∀k0:Int,lw b (fg b l) i out ok k0=some (k,true)->ok=true/\(b[i]=k0\/b[i]=0)/\ ∃t:List Int,k=out++k0::t/\t.length=l.length/\ ∀(j:Nat) (x y z:Int),l[j]? =some x->b[i+1+j]? =some y->t[j]? =some z->Wp x y z:=by
   intro k0 h;unfold lw at h
   cases ha:app out [k0]with
   |none=>rw [ha]at h;cases h
   |some z=>
    rw [ha,bw,hi]at h
    cases ok with
    |false=>
     simp only [jM,gT,bw]at h;exact absurd (V8 b H l (i+1) z false k (by omega) h).1 (by simp)
    |true=>
     simp only [hM,bw]at h;by_cases he:b[i]=k0
     ·rw [aR (by simp [he]),bw,bw]at h;obtain⟨_,t,p1,p2,p3⟩:=V8 b H l (i+1) z _ k (by omega) h;exact⟨rfl,.inl he,t,by rw [p1,sT ha];simp,p2,p3⟩
     ·rw [bz (by simp [he]),bw,bw]at h;obtain⟨p0,t,p1,p2,p3⟩:=V8 b H l (i+1) z _ k (by omega) h;exact⟨rfl,.inr (by simpa using p0),t,by rw [p1,sT ha];simp,p2,p3⟩
  have fin: ∀k0:Int,(x=k0\/x=0)->lw b (fg b l) i out ok k0=some (k,true)->ok=true/\ ∃t:List Int,k=out++t/\t.length=(x::l).length/\ ∀(j:Nat) (x1 y z:Int),(x::l)[j]? =some x1->b[i+j]? =some y->t[j]? =some z->Wp x1 y z:=by
   intro k0 V h;obtain⟨p0,p1,t,p2,p3,p4⟩:=key k0 h;refine⟨p0,k0::t,p2,by simp [p3],?_⟩;intro j x1 y z I M h3
   cases j with
   |zero=>
    simp only [Nf,FZ]at I h3;rw [vY,qg hib,FZ]at M;subst I;subst h3;subst M;exact⟨V,p1⟩
   |succ j=>
    rw [VD]at I h3;exact p4 j x1 y z I (by rw [<-M];congr 1;omega) h3
  unfold fg at h;by_cases V:x=0
  ·rw [bz (by simpa using V),hi,bw]at h;exact fin _ (.inr V) h
  ·rw [aR (by simpa using V)]at h;exact fin _ (.inl rfl) h
def PY{a b:List Int}(hop:n.Op=1)(h:bB n a b=some (k,true)):k=n.P'/\0<=n.Table/\n.Table<=3:=by
 unfold bB at h;rw [bz (by simpa using hop)]at h;obtain⟨_,I,M,h3⟩:=V9 n _ _ _ _ h;exact⟨h3,I,M⟩
def V6{a b:List Int}(hop:n.Op=2)(h:bB n a b=some (k,true)):k=a++b/\Ax n.J' (a++b)=true:=by
 unfold bB at h;rw [aR (by rw [hop];decide),bz (by simpa using hop)]at h
 cases I:app ([]:List Int) a with
 |none=>rw [I]at h;cases h
 |some l=>
  rw [I,bw]at h
  cases M:app l b with
  |none=>rw [M]at h;cases h
  |some o=>
   have e1:=sT I;have e2:=sT M;rw [M,bw,m0,bw]at h;injection h with h;injection h with h h3;subst h;rw [e1,kW]at e2;rw [e2]at h3 ⊢;exact⟨rfl,h3⟩
def Ow{a b:List Int}(hop:n.Op=3)(h:bB n a b=some (k,true)):k=a/\Ax n.J' a=true:=by
 unfold bB at h;rw [aR (by rw [hop];decide),aR (by rw [hop];decide),bz (by simpa using hop),m0,bw]at h;injection h with h;injection h with h h3;exact⟨h.symm,h3⟩
def LL{a b:List Int}(hs:cI n)(hop:n.Op=4)(h:bB n a b=some (k,true)):(∀c∈n.Q',0<=c/\c<(a.length:Int))/\(∀g∈n.M',(G4 g a).2=true)/\k=n.Q'.map (LV a)++(n.M'.map fun g=>(G4 g a).1)/\n.Q'.length<=3:=by
 unfold bB at h;rw [aR (by rw [hop];decide),aR (by rw [hop];decide),aR (by rw [hop];decide),bz (by simpa using hop)]at h;have:=afk n a hs.keys hs.aggs n.Q' jl [] 0 k (by simp) h;simpa using this
def LK{a b:List Int}(hs:cI n)(hop:n.Op=5)(h:bB n a b=some (k,true)):(∀e∈n.I',(eM e a).2=0)/\k=n.I'.map fun e=>(eM e a).1:=by
 unfold bB at h;rw [aR (by rw [hop];decide),aR (by rw [hop];decide),aR (by rw [hop];decide),aR (by rw [hop];decide),bz (by simpa using hop)]at h;have:=afj n a hs.items n.I' jl [] true 0 k (by simp) h;simpa using this.2
def Sj{a b:List Int}(hop:n.Op=6)(h:bB n a b=some (k,true)):k=a:=by
 unfold bB at h;rw [aR (by rw [hop];decide),aR (by rw [hop];decide),aR (by rw [hop];decide),aR (by rw [hop];decide),aR (by rw [hop];decide),bz (by simpa using hop)]at h;injection h with h;injection h with h _;exact h.symm
def ZZ{a b:List Int}(hal:a.length<=5000)(hop:n.Op=7)(h:bB n a b=some (k,true)):a.length=b.length/\k.length=a.length/\ ∀(j:Nat) (x y z:Int),a[j]? =some x->b[j]? =some y->k[j]? =some z->Wp x y z:=by
 unfold bB at h;rw [aR (by rw [hop];decide),aR (by rw [hop];decide),aR (by rw [hop];decide),aR (by rw [hop];decide),aR (by rw [hop];decide),aR (by rw [hop];decide),bz (by simpa using hop)]at h;by_cases he:a.length=b.length
 ·rw [aR (by simp [he])]at h;obtain⟨_,t,p1,p2,p3⟩:=V8 b (by omega) a 0 [] true k (by omega) h;rw [kW]at p1;subst p1;refine⟨he,p2,fun j x y z I M h3=>p3 j x y z I (by rw [u9];exact M) h3⟩
 ·rw [bz (by simp only [yD,ne_eq];omega)]at h;injection h with h;injection h with h M;cases M
def V5{a b:List Int}(hs:cI n)(hop:n.Op=8)(h:bB n a b=some (k,true)):k=a/\ ∀o∈n.R',0<=o.X'/\o.X'<(a.length:Int):=by
 unfold bB at h;rw [aR (by rw [hop];decide),aR (by rw [hop];decide),aR (by rw [hop];decide),aR (by rw [hop];decide),aR (by rw [hop];decide),aR (by rw [hop];decide),aR (by rw [hop];decide)]at h;have:=V7 n a hs.order n.R' jl true 0 k (by simp) h;exact this.2
def xR(h:Ij f){p:List α}(hp:p.Pairwise fun a b=>f a b<0):p.Nodup:=by
 unfold List.Nodup;refine hp.imp ?_;intro a b hab he;subst he;have:=h.self a;omega
def Nn [DecidableEq α](h:Ij f){p q:List α}(hp:p.Pairwise fun a b=>f a b<0)(hq:q.Pairwise fun a b=>f a b<0)(hm: ∀z,z∈p↔z∈q):p=q:=by
 have hpq:p.Perm q:=(List.perm_ext_iff_of_nodup (xR h hp) (xR h hq)).2 hm;exact z6 h (hp.imp fun h=>by omega) (hq.imp fun h=>by omega) hpq
def Lg{α κ:Type} [DecidableEq κ](key:α->κ)(kf:List α->κ): ∀(R:List (List α)),(∀y∈R,∀z∈y,key z=kf y)->R.Pairwise (fun a b=>kf a≠kf b)-> ∀y∈R,R.flatten.filter (fun z=>decide (key z=kf y))=y
 |[],_,_,y,hy=>by cases hy
 |x::t,I,M,y,hy=>by
  rw [yF]at M;rw [List.flatten_cons,Rh];have J: ∀w∈t,∀z∈w,key z=kf w:=fun w hw=>I w (ma _ hw);rcases iW.1 hy with q|q
  ·subst q;have e1:y.filter (fun z=>decide (key z=kf y))=y:=by
    rw [Ri];intro z hz;rw [nE];exact I y (md ..) z hz
   have e2:t.flatten.filter (fun z=>decide (key z=kf y))=[]:=by
    rw [Iy];intro z hz;obtain⟨w,hw,hz⟩:=List.mem_flatten.1 hz;rw [nE,J w hw z hz];exact fun e=>M.1 w hw e.symm
   rw [e1,e2,vb]
  ·have e1:x.filter (fun z=>decide (key z=kf y))=[]:=by
    rw [Iy];intro z hz;rw [nE,I x (md ..) z hz];exact M.1 y q
   rw [e1,kW];exact Lg key kf t J M.2 y q
def yd(c:List Int)(l:List cK):List k6:=(sP (ot (l.map (jz c)))).map fun k=>⟨k,ot (l.filter fun r=>decide (jz c r=k))⟩
def RO(c:List Int)(hl:l.length<=8000):(Az (NI c) l.length (zr (CZ c) l)).map (Ma c)=yd c l:=by
 have hC:=SQ c;have hL:=uk hC l (by omega);have hP:=jb (CZ c) l;generalize hLe:zr (CZ c) l=L at hL hP;have hlen:L.length=l.length:=hP.length_eq;have hflat:=Og (NI c) l.length L (by omega);have hkeys:=Oe c l.length L hL;have hmem:=Lc (NI c) l.length L;generalize Az (NI c) l.length L=R at hflat hkeys hmem;have hkey: ∀y∈R,∀z∈y,jz c z=(Ma c y).Key:=by
  intro y hy z hz;obtain⟨x,t,e,_,M⟩:=hmem y hy;subst e;show jz c z=jz c x;rcases iW.1 hz with q|q
  ·rw [q]
  ·have:=(M z q).2;unfold NI at this;exact(Kr this).symm
 have hpw:R.Pairwise fun a b=>(Ma c a).Key≠(Ma c b).Key:=by
  rw [List.pairwise_map]at hkeys;refine hkeys.imp ?_;intro a b hab he;rw [he,fe.self]at hab;omega
 have hfil:=Lg (jz c) (fun y=>(Ma c y).Key) R hkey hpw;rw [hflat]at hfil;have hrows: ∀g∈R.map (Ma c),g=⟨g.Key,ot (l.filter fun r=>decide (jz c r=g.Key))⟩:=by
  intro g hg;obtain⟨y,hy,e⟩:=rL.1 hg;subst e;have hf:=hfil y hy;have e:y=ot (l.filter fun r=>decide (jz c r=(Ma c y).Key)):=by
   refine z6 fe ?_ (uk fe _ (by have:=Es (fun r=>decide (jz c r=(Ma c y).Key)) l;omega)) ?_
   ·have hs:yh (CZ c) y:=by
     have:yh (CZ c) (L.filter fun z=>decide (jz c z=(Ma c y).Key)):=List.Pairwise.filter _ hL;rw [hf]at this;exact this
    refine List.Pairwise.imp_of_mem ?_ hs;intro a b ha H hab;unfold CZ at hab;rw [hkey y hy a ha,hkey y hy b H,fe.self]at hab;exact hab
   ·have hp:=(hP.filter fun z=>decide (jz c z=(Ma c y).Key));rw [hf]at hp;exact hp.trans (jb eZ _).symm
  have hR:Ma c y=⟨(Ma c y).Key,y⟩:=rfl;rw [hR];simp only [];rw [<-e]
 have hk:(R.map (Ma c)).map (fun g=>g.Key)=sP (ot (l.map (jz c))):=by
  refine Nn fe ?_ (BM fe (uk fe _ (by simp;omega))) ?_
  ·rw [List.pairwise_map];exact hkeys
  ·intro z;rw [yu,(jb eZ _).mem_iff,vZ,rL,rL];constructor
   ·rintro⟨y,hy,e⟩;obtain⟨x,t,e2,V,_⟩:=hmem y hy;exact⟨x,hP.mem_iff.1 V,by rw [<-e,e2];rfl⟩
   ·rintro⟨x,V,e⟩;have V:=hP.mem_iff.2 V;rw [<-hflat]at V;obtain⟨y,hy,hxy⟩:=List.mem_flatten.1 V;exact⟨y,hy,by rw [<-e];exact(hkey y hy x hxy).symm⟩
 unfold yd;rw [<-hk,vZ]
 conv=>lhs;rw [<-List.map_id (R.map (Ma c))]
 exact ET fun g hg=>hrows g hg
def Nr(h:Pa l)(hr:uY l=true)(hc:EG l c=true):yP l c=some (yd c l,0):=by
 have ha:BR l c=0:=by unfold BR;rw [hr,hc];rfl
 rw [Ns h,bz ha,RO c h.len]
