/- cu of this claim: K1, K2, K3, K4, Q1, Q2. -/
import Derived.Test.YthbdkceckjihgaaGreatDoorBeF
import Derived.KernelRfl
import Derived.Test.YthbdkceckjihgaaGreatDoorBeV4
import Derived.Laws.RangeAny
import Derived.Shelf.Strings.CaseAny
set_option linter.all false
namespace Go.Proofs.YthbdkceckjihgaaGreatDoor
open Go

abbrev Row:=List bO
variable{α:Type}
def cG{xs ys:List α}(h:xs.length+ys.length<=68719476736):lm xs ys=some (xs++ys):=bD h
def yX(v:bO):Bool:=(oo v).getD false
def D3(v:bO):oo v=some (yX v):=by
 unfold yX oo
 repeat' split
 all_goals rfl
def Dn(v:bO):sH v=some (if yX v then 0 else 120):=by
 obtain⟨k,n,u,s⟩:=v
 unfold yX oo sH vT
 simp only [jC,oO,oN,oM]
 by_cases h0:k=0
 ·subst h0;simp
  repeat' split
  all_goals simp_all
 by_cases A:k=1
 ·subst A
  by_cases n0:n=0
  ·subst n0;simp
   repeat' split
   all_goals simp_all
  by_cases n1:n=1
  ·subst n1;simp
   repeat' split
   all_goals simp_all
  simp [n0,n1]
 by_cases D:k=2
 ·subst D;simp
  repeat' split
  all_goals simp_all
 by_cases h3:k=3
 ·subst h3;simp
  repeat' split
  all_goals simp_all
 by_cases h4:k=4
 ·subst h4;simp
  repeat' split
  all_goals simp_all
 simp [h0,A,D,h3,h4]

structure Cmp{α:Type}(f:α->α->Int):Prop where
 rng: ∀x y,f x y= -1\/f x y=0\/f x y=1
 anti: ∀x y,f y x= -f x y
 eq: ∀x y,f x y=0↔x=y
 trans: ∀x y z,f x y<=0->f y z<=0->f x z<=0
def key(v:bO):Int×Int×Int×bZ:=(v.Kind,v.N,v.U,v.S)

section
variable{f:α->α->Int}
def ltB(f:α->α->Int)(x y:α):Bool:=decide (f x y<0)
def Ws(f:α->α->Int)(l:List α):List α:=T6 (ltB f) l
def put(f:α->α->Int)(x:α):List α->List α
 |[]=>[x]
 |y::l=>if f x y<0 then x::y::l else y::put f x l
end
def wK{α:Type} [DecidableEq α]:α->List α->List α
 |_,[]=>[]
 |p,x::t=>if x=p then wK x t else x::wK x t
def JD [DecidableEq α](p:α):wK p []=[]:=by unfold wK;rfl
def GG [DecidableEq α]{p x:α}(h:x=p)(t:List α):wK p (x::t)=wK x t:=by
 conv=>lhs;unfold wK
 rw [bD h]
def Nu [DecidableEq α]{p x:α}(h: ¬x=p)(t:List α):wK p (x::t)=x::wK x t:=by
 conv=>lhs;unfold wK
 rw [bv h]
def Nt{α:Type} [DecidableEq α]:List α->List α
 |[]=>[]
 |x::t=>x::wK x t
def EK{α:Type} [DecidableEq α]: ∀(p:α) (l:List α) (z:α),z∈wK p l->z∈l
 |p,x::t,z,h=>by
  unfold wK at h
  split at h
  ·exact ma _ (EK x t z h)
  ·rcases eW.1 h with rfl|h
   ·exact lL ..
   ·exact ma _ (EK x t z h)
def Ec{α:Type} [DecidableEq α]: ∀(p:α) (l:List α) (z:α),z∈l->z=p\/z∈wK p l
 |p,x::t,z,h=>by
  unfold wK
  by_cases V:x=p
  ·rw [bD V]
   rcases eW.1 h with rfl|h
   ·exact .inl V
   ·rcases Ec x t z h with h|h
    ·exact .inl (h.trans V)
    ·exact .inr h
  ·rw [bv V]
   rcases eW.1 h with rfl|h
   ·exact .inr (lL ..)
   ·rcases Ec x t z h with h|h
    ·exact .inr (by rw [h];exact lL ..)
    ·exact .inr (ma _ h)
def OH [DecidableEq α](l:List α)(z:α):z∈Nt l↔z∈l:=by
 cases l with
 |nil=>exact rJ
 |cons x t=>
  constructor
  ·intro h
   rcases eW.1 h with rfl|h
   ·exact lL ..
   ·exact ma _ (EK x t z h)
  ·intro h
   rcases eW.1 h with rfl|h
   ·exact lL ..
   ·rcases Ec x t z h with rfl|h
    ·exact lL ..
    ·exact ma _ h

structure Small(l:List Row):Prop where
 len:l.length<=8000
 row: ∀r∈l,r.length<=1000
def cV{n:Int}(h: -9223372036854775808<=n)(D:n<=9223372036854775807):IntKind.i64.wrap n=n:=by rw [yF];omega
def t8{xs:List α}{l m:Nat}(h:l<=m)(D:m<=xs.length):cO xs (l:Int) (m:Int)=some ((xs.take m).drop l):=by
 unfold cO
 rw [bD (by omega)]
 simp

def gy(n:Nat):Bool:=decide (97<=n)&&decide (n<=122)
def sl(n:Nat):Bool:=decide (48<=n)&&decide (n<=57)
def VX(n:Nat):Bool:=gy n||sl n||n==95
def Ow(b:UInt8):Bool:=VX b.toNat
def uJ(n:Nat):ud (n:Int)=some (gy n):=by
 unfold ud gy
 congr 2<;>(rw [xL];omega)
def Ae(n:Nat):xk (n:Int)=some (sl n):=by
 unfold xk sl
 congr 2<;>(rw [xL];omega)
def rY(n:Nat):sM (n:Int)=some (gy n):=uJ n
def D1(n:Nat):BZ (n:Int)=some (sl n):=Ae n
def KT{n:Nat}(h:VX n=true):n<128:=by
 unfold VX gy sl at h
 simp only [vN,gU,li,sG]at h
 omega
def Rs(n:Nat):((n:Int) !=(95:Int))= !(n==95):=by
 rw [bne,tQ]
 simp only [vO,Ig,ne_eq]
 omega
variable{i:Nat}
def Ri{s:bZ}(h:i<s.length)(H:(s[i]).toNat<128):rq s i=((s[i]).toNat,1):=
 decode_ascii ⟨s.toArray⟩ i (show i<(ByteArray.mk s.toArray).size from h) H
def O7{s:bZ}(h:i<s.length)(H: ¬(s[i]).toNat<128):128<=(rq s i).1:=
 (decode_high ⟨s.toArray⟩ i (show i<(ByteArray.mk s.toArray).size from h) (show 128<=(s[i]).toNat by omega)).1
def IL(s:bZ): ∀(f i:Nat),s.length<i+f->nF (rQ s f i)=some ((s.drop i).all Ow)
 |0,i,h=>by
  rw [oE (by omega)];rfl
 |f+1,i,h=>by
  unfold rQ
  by_cases hi:i<s.length
  ·rw [bD hi]
   unfold nF
   simp only [Ae,uJ,aP,Rs]
   rw [pC hi,qk]
   by_cases H:(s[i]).toNat<128
   ·rw [Ri hi H]
    simp only []
    have ih:=IL s f (i+1) (by omega)
    have e:Ow s[i]=(gy (s[i]).toNat||sl (s[i]).toNat||(s[i]).toNat==95):=rfl
    rw [e]
    cases A:sl (s[i]).toNat<;>cases D:gy (s[i]).toNat<;>cases h3:((s[i]).toNat==95)<;>simp [ih]
   ·have hh:=O7 hi H
    have e:Ow s[i]=false:=by
     cases ho:Ow s[i]with
     |false=>rfl
     |true=>exact absurd (KT ho) H
    have e2:VX (rq s i).1=false:=by
     cases ho:VX (rq s i).1 with
     |false=>rfl
     |true=>have:=KT ho;omega
    rw [e,Bool.false_and]
    unfold VX at e2
    simp only [GU]at e2
    obtain⟨⟨D,A⟩,h3⟩:=e2
    simp [A,D,h3]
  ·rw [bv hi,oE (by omega)];rfl
def Dj(s:bZ):Bool:=U5.any fun w=>w==s
def JY(v:bZ): ∀(l:List bZ) (i:Nat),∃j:Int,dd v l i=some j/\decide (0<=j)=l.any fun w=>w==v
 |[],i=>⟨-1,rfl,rfl⟩
 |e::l,i=>by
  unfold dd
  by_cases h:v=e
  ·subst h
   exact⟨(i:Int),by simp,by simp⟩
  ·obtain⟨j,A,D⟩:=JY v l (i+1)
   exact⟨j,by simp [h,A],by simp [D,Ne.symm h]⟩
def yr(s:bZ):uK s=some (Dj s):=by
 unfold uK ej eb
 obtain⟨j,A,D⟩:=JY s U5 0
 rw [A]
 simp only [aP,D]
 rfl
def QM(s:bZ): ∀l:List bZ,rh s l=some (l.any fun w=>w==s)
 |[]=>rfl
 |e::l=>by
  unfold rh
  rw [QM s l,AN]
  cases (e==s)<;>rfl
def CD(s:bZ):uF s=some (Dj s):=by
 unfold uF B0 F7
 rw [aP,QM]
 rfl
def Kl(b:UInt8):UInt8:=UInt8.ofNat (if gy b.toNat then b.toNat-32 else b.toNat)
def NU: ∀b:UInt8,Kl b=Lib.upperB b:=by
 intro b
 have key: ∀i:Fin 256,Kl (UInt8.ofNat i.val)=Lib.upperB (UInt8.ofNat i.val):=by decide+kernel
 have:=key ⟨b.toNat,b.toNat_lt⟩
 simpa using this
def q0(a b:List Int):pw (a++b)=pw a++pw b:=by simp [pw]
def wR(s:bZ)(hs:s.length<=1000): ∀(n i:Nat) (out:List Int),s.length<i+n->out.length<=i->i<=s.length->mC s n out (i:Int)=some (pw out++(s.drop i).map Kl)
 |0,i,out,h,_,D=>by omega
 |n+1,i,out,h,A,D=>by
  unfold mC
  by_cases hi:i<s.length
  ·rw [bD (by rw [li];omega)]
   have e:qO s (i:Int)=some ((s[i]).toNat:Int):=by
    unfold qO
    rw [iu,jA hi];rfl
   have hw:IntKind.i64.wrap ((i:Int)+1)=((i+1:Nat):Int):=by rw [yF];omega
   rw [e,aP,rY,aP,pC hi,qT]
   have hlt:=(s[i]).toNat_lt
   cases hsm:gy (s[i]).toNat with
   |true=>
    have h97:97<=(s[i]).toNat/\(s[i]).toNat<=122:=by simpa [gy] using hsm
    have hc:IntKind.u8.wrap (IntKind.u8.wrap (((s[i]).toNat:Int)-97)+65)=(((s[i]).toNat-32:Nat):Int):=by
     rw [IntKind.wrap_u8,IntKind.wrap_u8];omega
    rw [bD rfl,hc]
    unfold o6
    rw [cG (by simp;omega),aP,hw,wR s hs n (i+1) _ (by omega) (by simp;omega) (by omega),q0,fk]
    congr 2
    show pw [_]++_=_
    simp only [pw,qT,BM,tR,nu]
    congr 1
    simp [Kl,hsm]
   |false=>
    rw [bv (by simp)]
    unfold o6
    rw [cG (by simp;omega),aP,hw,wR s hs n (i+1) _ (by omega) (by simp;omega) (by omega),q0,fk]
    congr 2
    show pw [_]++_=_
    simp only [pw,qT,BM,tR,nu]
    congr 1
    simp [Kl,hsm]
  ·rw [bv (by rw [li];omega),oE (by omega)]
   simp
def D2(s:bZ)(hs:s.length<=1000):wm s=some (s.map Kl):=by
 unfold wm
 rw [show((0:Int))=((0:Nat):Int)from rfl,wR s hs gx 0 [] (by unfold gx;omega) (eO _) (ij _)]
 rfl
def FE(s:bZ)(hs:s.length<=1000)(ha: ∀b∈s,Ow b=true):i7 s=some (s.map Kl):=by
 unfold i7
 rw [bD (by omega),Lib.toUpperD_ascii s (fun b H=>KT (ha b H))]
 unfold Lib.toUpperA
 rw [show Kl=Lib.upperB from funext NU]
def MQ:bZ->Bool
 |[]=>false
 |b::_=>gy b.toNat
def gG(s:bZ):Bool:=(decide (1<=s.length)&&decide (s.length<=16)&&MQ s)&&(!Dj (s.map Kl)&&s.all Ow)
def Bm{b:UInt8}{t:bZ}:qO (b::t) (0:Int)=some (b.toNat:Int):=by unfold qO;rfl
def jt(s:bZ):jI s=some (gG s):=by
 unfold jI gG
 cases s with
 |nil=>rfl
 |cons b t=>
  by_cases hl:(b::t).length<=16
  ·rw [bD (by rw [show((b::t)==([]:bZ))=false from rfl,yD,vO,nl];omega),Bm,aP]
   have H:=b.toNat_lt
   rw [show IntKind.i32.wrap (b.toNat:Int)=(b.toNat:Int) by rw [IntKind.wrap_i32];omega,uJ,aP,aP]
   have e0:(decide (1<=(b::t).length)&&decide ((b::t).length<=16)&&MQ (b::t))=gy b.toNat:=by
    rw [oJ (show 1<=(b::t).length by simp),oJ hl];rfl
   rw [e0]
   cases hsm:gy b.toNat with
   |false=>rfl
   |true=>
    have hr:=IL (b::t) ((b::t).length+1) 0 (by omega)
    rw [pA]at hr
    have hT:i7 (b::t)=some (Lib.toUpperD (b::t)):=by unfold i7;rw [bD (by omega)]
    simp only [oI,AO,gW]
    cases ha:(b::t).all Ow with
    |true=>
     rw [FE (b::t) (by omega) (fun c hc=>mo.1 ha c hc),aP,yr,aP,aP]
     unfold IM
     rw [hr,ha]
     cases Dj ((b::t).map Kl)<;>rfl
    |false=>
     rw [hT,aP,yr,aP,aP]
     unfold IM
     rw [hr,ha]
     cases Dj (Lib.toUpperD (b::t))<;>simp
  ·rw [bv (by rw [show((b::t)==([]:bZ))=false from rfl,yD,vO,nl,Classical.not_not];omega)]
   rw [qC hl]
   simp
def AL(s:bZ)(hs:s.length<=1000): ∀(n i:Nat),s.length<i+n->i<=s.length->nM s n (i:Int)=some ((s.drop i).all Ow)
 |0,i,h,D=>by omega
 |n+1,i,h,D=>by
  unfold nM
  by_cases hi:i<s.length
  ·rw [bD (by rw [li];omega)]
   have e:qO s (i:Int)=some ((s[i]).toNat:Int):=by
    unfold qO
    rw [iu,jA hi];rfl
   have hw:IntKind.i64.wrap ((i:Int)+1)=((i+1:Nat):Int):=by rw [yF];omega
   simp only [e,aP,rY,D1,Rs,hw]
   rw [AL s hs n (i+1) (by omega) (by omega),pC hi,qk]
   have e2:Ow s[i]=(gy (s[i]).toNat||sl (s[i]).toNat||(s[i]).toNat==95):=rfl
   rw [e2]
   cases A:sl (s[i]).toNat<;>cases D:gy (s[i]).toNat<;>cases h3:((s[i]).toNat==95)<;>simp
  ·rw [bv (by rw [li];omega),oE (by omega)]
   rfl
def vp(s:bZ):ri s=some (gG s):=by
 unfold ri gG
 cases s with
 |nil=>rfl
 |cons b t=>
  by_cases hl:(b::t).length<=16
  ·rw [bD (by rw [vO,GU,nl,nl];simp at hl ⊢;omega),Bm,aP,rY,aP,aP]
   have e0:(decide (1<=(b::t).length)&&decide ((b::t).length<=16)&&MQ (b::t))=gy b.toNat:=by
    rw [oJ (show 1<=(b::t).length by simp),oJ hl];rfl
   rw [e0]
   cases hsm:gy b.toNat with
   |false=>rfl
   |true=>
    simp only [oI,AO,gW]
    rw [D2 _ (by omega),aP,CD,aP,aP,show((0:Int))=((0:Nat):Int)from rfl,AL _ (by omega) gx 0 (by unfold gx;omega) (ij _),pA]
    cases Dj ((b::t).map Kl)<;>simp
  ·rw [bv (by rw [vO,GU,nl,nl];omega)]
   rw [qC hl]
   simp

def sU(k:Int):Bool:=k==1||k==2||k==3
def CJ(k:Int): ∃r,rr k=some r/\(r==([]:bZ))= !sU k:=by
 have g0:fg U6 ((0:Nat):Int)=some ⟨[98,111,111,108],1⟩:=rfl
 have g1:fg U6 ((0+1:Nat):Int)=some ⟨[105,110,116],2⟩:=rfl
 have g2:fg U6 ((0+1+1:Nat):Int)=some ⟨[116,101,120,116],3⟩:=rfl
 unfold rr
 by_cases A:k=1
 ·subst A;exact⟨_,by simp only [jb,g0,aP];rfl,rfl⟩
 by_cases D:k=2
 ·subst D;exact⟨_,by simp only [jb,g0,g1,aP];rfl,rfl⟩
 by_cases h3:k=3
 ·subst h3;exact⟨_,by simp only [jb,g0,g1,g2,aP];rfl,rfl⟩
 have n1:((1:Int)==k)=false:=by simpa using Ne.symm A
 have n2:((2:Int)==k)=false:=by simpa using Ne.symm D
 have n3:((3:Int)==k)=false:=by simpa using Ne.symm h3
 refine⟨[],?_,?_⟩
 ·simp only [jb,g0,g1,g2,aP,n1,n2,n3];rfl
 ·simp [sU,A,D,h3]
def Fp(k:Int): ∃r,yZ k=some r/\(r==([]:bZ))= !sU k:=by
 unfold yZ
 by_cases A:k=1
 ·subst A;exact⟨_,rfl,rfl⟩
 by_cases D:k=2
 ·subst D;exact⟨_,rfl,rfl⟩
 by_cases h3:k=3
 ·subst h3;exact⟨_,rfl,rfl⟩
 exact⟨[],by simp [A,D,h3],by simp [sU,A,D,h3]⟩
def CF(p:List bl)(x:bl):Bool:=p.any fun y=>y.Name==x.Name
def Pb:List bl->List bl->Bool
 |_,[]=>true
 |p,x::t=>(!CF p x&&gG x.Name)&&Pb (p++[x]) t
def EP:List bl->List bl->Bool
 |_,[]=>true
 |p,x::t=>(gG x.Name&&sU x.Kind&& !CF p x)&&EP (p++[x]) t
def H2: ∀(t p:List bl),EP p t=(Pb p t&&t.all fun x=>sU x.Kind)
 |[],_=>rfl
 |x::t,p=>by
  unfold EP Pb
  rw [H2 t (p++[x]),qk]
  cases CF p x<;>cases gG x.Name<;>cases sU x.Kind<;>simp
def QL(x:bl)(t:List bl): ∀(p:List bl) (i:Nat),∃k:Nat,cq (ep ew x.Name) (p++x::t) i=some ((i+k:Nat):Int)/\(k !=p.length)=CF p x
 |[],i=>⟨0,by unfold cq;simp [ep,ew],rfl⟩
 |y::p,i=>by
  rw [tR]
  unfold cq
  rw [show ep ew x.Name y=some (y.Name==x.Name)from rfl,aP]
  cases h:(y.Name==x.Name)with
  |true=>exact⟨0,rfl,by unfold CF;rw [AN,h];rfl⟩
  |false=>
   obtain⟨k,A,D⟩:=QL x t p (i+1)
   refine⟨k+1,by rw [bv (by simp),A];congr 2;omega,?_⟩
   unfold CF at D ⊢
   rw [AN,h,yD,<-D,gz]
   rw [tQ];simp
def WL(x:bl)(p t:List bl): ∃k:Int,iT (p++x::t) ew x.Name=some (k,true)/\(k !=(p.length:Int))=CF p x:=by
 obtain⟨k,A,D⟩:=QL x t p 0
 refine⟨(k:Int),?_,?_⟩
 ·unfold iT fq
  rw [A,aP,pz]
  have e1:max (k:Int) 0=(k:Int):=by omega
  have e2:decide ((0:Int)<=(k:Int))=true:=oJ (by omega)
  rw [e1,e2]
 ·rw [<-D,tQ];simp;omega
def TY: ∀(t p:List bl),fA (p++t) ew t p.length=some (Pb p t)
 |[],p=>rfl
 |x::t,p=>by
  unfold fA
  obtain⟨k,A,D⟩:=WL x p t
  rw [show ew x=some x.Name from rfl,aP,A,aP]
  simp only [D,aP,jt]
  unfold Pb
  have ih:=TY t (p++[x])
  rw [fk,GV,mV,xO]at ih
  rw [ih]
  cases CF p x<;>cases gG x.Name<;>simp
def Hs(l:List bl):kU l ew=some (Pb [] l):=TY l []
def Ag(t:bp): ∀(l:List bl) (ok:Bool),f6 t l ok=eX t t.Keys 0 (ok&&l.all fun x=>sU x.Kind)
 |[],ok=>by unfold f6;simp
 |x::l,ok=>by
  unfold f6
  obtain⟨r,A,D⟩:=CJ x.Kind
  cases ok with
  |false=>
   rw [bv (by simp),aP,Ag t l];simp
  |true=>
   rw [bD rfl,A,aP,aP,Ag t l,D,qk];simp
def KQ(n:Nat):Option Int->List Int->Bool
 |_,[]=>true
 |o,k::t=>(decide (0<=k)&&decide (k<(n:Int))&&(o.all fun j=>decide (j<k)))&&KQ n (some k) t
def NJ(n:Nat)(o:Option Int)(k:Int)(t:List Int):KQ n o (k::t)=((decide (0<=k)&&decide (k<(n:Int))&&(o.all fun j=>decide (j<k)))&&KQ n (some k) t):=rfl
def F9(l:List Int):Nat->Option Int
 |0=>none
 |i+1=>l[i]?
def Aa{l:List Int}(h:i<l.length):F9 l (i+1)=some l[i]:=jA h
def Jk{l:List Int}(h:i+1<=l.length)(hl:l.length<=100000):fg l (IntKind.i64.wrap (((i+1:Nat):Int)-1))=some l[i]:=by
 rw [show IntKind.i64.wrap (((i+1:Nat):Int)-1)=(i:Int) by rw [yF];omega,iu,jA (by omega)]
def MK(t:bp)(hl:t.Keys.length<=100000): ∀(n i:Nat) (ok:Bool),t.Keys.length-i=n->i<=t.Keys.length->eX t (t.Keys.drop i) i ok=some (if ok&&KQ t.Columns.length (F9 t.Keys i) (t.Keys.drop i)then 0 else 211)
 |0,i,ok,h,hi=>by
  rw [oE (by omega)]
  unfold eX KQ
  cases ok<;>rfl
 |n+1,i,ok,h,hi=>by
  have hlt:i<t.Keys.length:=by omega
  rw [pC hlt,NJ]
  unfold eX
  have ih:=MK t hl n (i+1)
  rw [Aa hlt]at ih
  cases ok with
  |false=>
   simp only [Bool.false_and,jS,ii,aP]
   rw [ih false (by omega) (by omega)];simp
  |true=>
   simp only [tw]
   by_cases A:(0:Int)<=t.Keys[i]
   ·by_cases D:t.Keys[i]<(t.Columns.length:Int)
    ·rw [bD (by rw [oJ A,oJ D];rfl),oJ A,oJ D]
     cases i with
     |zero=>
      rw [bv (by simp),aP,aP,ih true (by omega) (by omega)]
      simp [F9]
     |succ j=>
      rw [bD (by simp;omega),Jk (by omega) hl,aP,aP,aP,ih _ (by omega) (by omega),Aa (by omega)]
      simp [Option.all]
    ·rw [bv (by rw [qC D];simp),aP,ih false (by omega) (by omega),qC D];simp
   ·rw [bv (by rw [qC A];simp),aP,ih false (by omega) (by omega),qC A];simp
def IS(t:bp)(hl:t.Keys.length<=100000): ∀(n i:Nat),t.Keys.length<i+n->i<=t.Keys.length->ky t n (i:Int)=some (KQ t.Columns.length (F9 t.Keys i) (t.Keys.drop i))
 |0,i,h,hi=>by omega
 |n+1,i,h,hi=>by
  unfold ky
  by_cases hlt:i<t.Keys.length
  ·have hw:IntKind.i64.wrap ((i:Int)+1)=((i+1:Nat):Int):=by rw [yF];omega
   have ih:=IS t hl n (i+1) (by omega) (by omega)
   rw [Aa hlt]at ih
   rw [bD (by rw [li];omega),iu,jA hlt,aP,hw,ih,pC hlt,NJ]
   by_cases A:(0:Int)<=t.Keys[i]
   ·by_cases D:t.Keys[i]<(t.Columns.length:Int)
    ·rw [bD (by rw [qC (show¬t.Keys[i]<0 by omega),qC (show¬(t.Columns.length:Int)<=t.Keys[i] by omega)];rfl),oJ A,oJ D]
     cases i with
     |zero=>
      rw [bv (by simp)]
      simp [F9]
     |succ j=>
      rw [bD (by rw [li];omega),Jk (by omega) hl,Aa (show j<t.Keys.length by omega)]
      simp only [aP,Option.all,tw]
      by_cases h3:t.Keys[j]<t.Keys[j+1]
      ·rw [oJ h3,qC (show¬t.Keys[j+1]<=t.Keys[j] by omega)];simp
      ·rw [qC h3,oJ (show t.Keys[j+1]<=t.Keys[j] by omega)];simp
    ·rw [bv (by rw [oJ (show(t.Columns.length:Int)<=t.Keys[i] by omega)];simp),qC D];simp
   ·rw [bv (by rw [oJ (show t.Keys[i]<0 by omega)];simp),qC A];simp
  ·rw [bv (by rw [li];omega),oE (by omega)];rfl
def uw(t:bp):Bool:=(gG t.Name&&decide (1<=t.Columns.length)&&decide (t.Columns.length<=4))&&(EP [] t.Columns&&KQ t.Columns.length none t.Keys)
def FG(t:bp)(hl:t.Keys.length<=100000):lJ t=some (if uw t then 0 else 211):=by
 unfold lJ uw
 rw [jt,aP,H2]
 have key:=MK t hl t.Keys.length 0
 rw [pA]at key
 have e1:decide ((1:Int)<=(t.Columns.length:Int))=decide (1<=t.Columns.length):=by rw [xL];omega
 have e2:decide ((t.Columns.length:Int)<=(4:Int))=decide (t.Columns.length<=4):=by rw [xL];omega
 rw [e1,e2]
 cases h:(gG t.Name&&decide (1<=t.Columns.length)&&decide (t.Columns.length<=4))with
 |false=>
  rw [bv (by simp),aP,Ag,key _ rfl (ij _)];simp
 |true=>
  rw [bD rfl,Hs,aP,aP,Ag,key _ rfl (ij _)]
  simp [F9]
def F5(t:bp)(nx:Int->Option Bool)(i:Nat)(hi:i<t.Columns.length)(hn:t.Columns.length<=4)(e:bl): ∀(n k:Nat),i<k+n->k<=i->kA t nx (i:Int) e n (k:Int)=if((t.Columns.take i).drop k).any (fun y=>y.Name==e.Name)then some false else nx ((i+1:Nat):Int)
 |0,k,h,hk=>by omega
 |n+1,k,h,hk=>by
  unfold kA
  by_cases hlt:k<i
  ·have hw:IntKind.i64.wrap ((k:Int)+1)=((k+1:Nat):Int):=by rw [yF];omega
   have hl2:k<(t.Columns.take i).length:=by simp;omega
   rw [bD (by rw [li];omega),iu,jA (by omega),aP,hw,F5 t nx i hi hn e n (k+1) (by omega) (by omega),pC hl2,AN,List.getElem_take]
   cases (t.Columns[k].Name==e.Name)<;>simp
  ·have hw:IntKind.i64.wrap ((i:Int)+1)=((i+1:Nat):Int):=by rw [yF];omega
   rw [bv (by rw [li];omega),hw,oE (by simp;omega)]
   simp
def Mq(t:bp)(hn:t.Columns.length<=4)(hl:t.Keys.length<=100000): ∀(n i:Nat),t.Columns.length<i+n->i<=t.Columns.length->kB t n (i:Int)=some (EP (t.Columns.take i) (t.Columns.drop i)&&KQ t.Columns.length none t.Keys)
 |0,i,h,hi=>by omega
 |n+1,i,h,hi=>by
  unfold kB
  by_cases hlt:i<t.Columns.length
  ·obtain⟨r,A,D⟩:=Fp t.Columns[i].Kind
   have ih:=Mq t hn hl n (i+1) (by omega) (by omega)
   rw [bD (by rw [li];omega),iu,jA hlt,aP,vp,aP,A,show((0:Int))=((0:Nat):Int)from rfl,F5 t _ i hlt hn _ gx 0 (by unfold gx;omega) (ij _),ih,pA,pC hlt,J9 hlt,show∀p x t,EP p (x::t)=((gG x.Name&&sU x.Kind&& !CF p x)&&EP (p++[x]) t)from fun _ _ _=>rfl]
   simp only [aP,D]
   show _=some ((gG t.Columns[i].Name&&sU t.Columns[i].Kind&& !((t.Columns.take i).any fun y=>y.Name==t.Columns[i].Name))&&_&&_)
   cases gG t.Columns[i].Name<;>cases sU t.Columns[i].Kind<;>cases ((t.Columns.take i).any fun y=>y.Name==t.Columns[i].Name)<;>simp
  ·rw [bv (by rw [li];omega),show((0:Int))=((0:Nat):Int)from rfl,IS t hl gx 0 (by unfold gx;omega) (ij _),oE (show t.Columns.length<=i by omega),pA]
   rfl
def FF(t:bp)(hl:t.Keys.length<=100000):pK t=some (uw t):=by
 unfold pK uw
 rw [vp,aP]
 by_cases A:1<=t.Columns.length
 ·by_cases D:t.Columns.length<=4
  ·rw [qC (show¬(t.Columns.length:Int)<1 by omega),qC (show¬(4:Int)<(t.Columns.length:Int) by omega),oJ A,oJ D,show((0:Int))=((0:Nat):Int)from rfl,Mq t D hl gx 0 (by unfold gx;omega) (ij _),List.take_zero,pA]
   cases gG t.Name<;>simp
  ·rw [oJ (show(4:Int)<(t.Columns.length:Int) by omega),qC D];simp
 ·rw [oJ (show(t.Columns.length:Int)<1 by omega),qC A];simp
def HD(p:List bp)(x:bp):Bool:=p.any fun y=>y.Name==x.Name
def Kq:List bp->List bp->Bool
 |_,[]=>true
 |p,x::t=>(!HD p x&&gG x.Name)&&Kq (p++[x]) t
def Kp:List bp->List bp->Bool
 |_,[]=>true
 |p,x::t=>(uw x&& !HD p x)&&Kp (p++[x]) t
def PQ{t:bp}(h:uw t=true):gG t.Name=true:=by
 unfold uw at h
 simp only [gU]at h
 exact h.1.1.1
def Hd: ∀(t p:List bp),Kp p t=(t.all uw&&Kq p t)
 |[],_=>rfl
 |x::t,p=>by
  unfold Kp Kq
  rw [Hd t (p++[x]),qk]
  cases h:uw x with
  |false=>simp
  |true=>
   rw [PQ h]
   cases HD p x<;>simp
def QK(x:bp)(t:List bp): ∀(p:List bp) (i:Nat),∃k:Nat,bj (du dz x.Name) (p++x::t) i=some ((i+k:Nat):Int)/\(k !=p.length)=HD p x
 |[],i=>⟨0,by unfold bj;simp [du,dz],rfl⟩
 |y::p,i=>by
  rw [tR]
  unfold bj
  rw [show du dz x.Name y=some (y.Name==x.Name)from rfl,aP]
  cases h:(y.Name==x.Name)with
  |true=>exact⟨0,rfl,by unfold HD;rw [AN,h];rfl⟩
  |false=>
   obtain⟨k,A,D⟩:=QK x t p (i+1)
   refine⟨k+1,by rw [bv (by simp),A];congr 2;omega,?_⟩
   unfold HD at D ⊢
   rw [AN,h,yD,<-D,gz]
   rw [tQ];simp
def WK(x:bp)(p t:List bp): ∃k:Int,fK (p++x::t) dz x.Name=some (k,true)/\(k !=(p.length:Int))=HD p x:=by
 obtain⟨k,A,D⟩:=QK x t p 0
 refine⟨(k:Int),?_,?_⟩
 ·unfold fK cM
  rw [A,aP,pz]
  have e1:max (k:Int) 0=(k:Int):=by omega
  have e2:decide ((0:Int)<=(k:Int))=true:=oJ (by omega)
  rw [e1,e2]
 ·rw [<-D,tQ];simp;omega
def TX: ∀(t p:List bp),fR (p++t) dz t p.length=some (Kq p t)
 |[],p=>rfl
 |x::t,p=>by
  unfold fR
  obtain⟨k,A,D⟩:=WK x p t
  rw [show dz x=some x.Name from rfl,aP,A,aP]
  simp only [D,aP,jt]
  unfold Kq
  have ih:=TX t (p++[x])
  rw [fk,GV,mV,xO]at ih
  rw [ih]
  cases HD p x<;>cases gG x.Name<;>simp
def zp(c:aq):Prop:= ∀t∈c.Tables,t.Keys.length<=100000
def Az: ∀(l:List bp) (i:Nat),(∀t∈l,t.Keys.length<=100000)-> ∃j:Int,bj jX l i=some j/\decide (0<=j)= !l.all uw
 |[],i,_=>⟨-1,rfl,rfl⟩
 |x::l,i,h=>by
  unfold bj
  rw [show jX x=some (!uw x) by unfold jX;rw [FG x (h x (lL ..)),aP];cases uw x<;>rfl,aP,qk]
  cases V:uw x with
  |false=>exact⟨(i:Int),rfl,by simp⟩
  |true=>
   obtain⟨j,A,D⟩:=Az l (i+1) fun t M=>h t (ma _ M)
   exact⟨j,by simpa using A,by simpa using D⟩
def ER(c:aq):Bool:=decide (c.Tables.length<=4)&&Kp [] c.Tables
def pW{c:aq}(h:zp c):qi c=some (if ER c then 0 else 210):=by
 unfold qi ER
 obtain⟨j,A,D⟩:=Az c.Tables 0 h
 have h3:lI c.Tables dz=some (Kq [] c.Tables):=TX c.Tables []
 rw [Hd]
 by_cases hl:c.Tables.length<=4
 ·rw [qC (show¬(4:Int)<(c.Tables.length:Int) by omega),oJ hl]
  unfold fb cM
  rw [A,h3]
  simp only [AO,gW,aP,D]
  cases c.Tables.all uw<;>cases Kq [] c.Tables<;>rfl
 ·rw [oJ (show(4:Int)<(c.Tables.length:Int) by omega),qC hl];rfl
def F4(c:aq)(nx:Int->Option Bool)(i:Nat)(hi:i<c.Tables.length)(hn:c.Tables.length<=4)(e:bp): ∀(n k:Nat),i<k+n->k<=i->oZ c nx (i:Int) e n (k:Int)=if((c.Tables.take i).drop k).any (fun y=>y.Name==e.Name)then some false else nx ((i+1:Nat):Int)
 |0,k,h,hk=>by omega
 |n+1,k,h,hk=>by
  unfold oZ
  by_cases hlt:k<i
  ·have hw:IntKind.i64.wrap ((k:Int)+1)=((k+1:Nat):Int):=by rw [yF];omega
   have hl2:k<(c.Tables.take i).length:=by simp;omega
   rw [bD (by rw [li];omega),iu,jA (by omega),aP,hw,F4 c nx i hi hn e n (k+1) (by omega) (by omega),pC hl2,AN,List.getElem_take]
   cases (c.Tables[k].Name==e.Name)<;>simp
  ·have hw:IntKind.i64.wrap ((i:Int)+1)=((i+1:Nat):Int):=by rw [yF];omega
   rw [bv (by rw [li];omega),hw,oE (by simp;omega)]
   simp
def Mo(c:aq)(hn:c.Tables.length<=4)(hc:zp c): ∀(n i:Nat),c.Tables.length<i+n->i<=c.Tables.length->o0 c n (i:Int)=some (Kp (c.Tables.take i) (c.Tables.drop i))
 |0,i,h,hi=>by omega
 |n+1,i,h,hi=>by
  unfold o0
  by_cases hlt:i<c.Tables.length
  ·have ih:=Mo c hn hc n (i+1) (by omega) (by omega)
   rw [bD (by rw [li];omega),iu,jA hlt,aP,FF _ (hc _ (Id hlt)),aP,show((0:Int))=((0:Nat):Int)from rfl,F4 c _ i hlt hn _ gx 0 (by unfold gx;omega) (ij _),ih,pA,pC hlt,J9 hlt,show∀p x t,Kp p (x::t)=((uw x&& !HD p x)&&Kp (p++[x]) t)from fun _ _ _=>rfl]
   show _=some ((uw c.Tables[i]&& !((c.Tables.take i).any fun y=>y.Name==c.Tables[i].Name))&&_)
   cases uw c.Tables[i]<;>cases ((c.Tables.take i).any fun y=>y.Name==c.Tables[i].Name)<;>simp
  ·rw [bv (by rw [li];omega),oE (show c.Tables.length<=i by omega)]
   rfl
def DV{c:aq}(h:zp c):wi c=some (ER c):=by
 unfold wi ER
 by_cases hl:c.Tables.length<=4
 ·rw [bv (by rw [li];omega),show((0:Int))=((0:Nat):Int)from rfl,Mo c hl h gx 0 (by unfold gx;omega) (ij _),oJ hl]
  rfl
 ·rw [bD (by rw [li];omega),qC hl];rfl
end Go.Proofs.YthbdkceckjihgaaGreatDoor

