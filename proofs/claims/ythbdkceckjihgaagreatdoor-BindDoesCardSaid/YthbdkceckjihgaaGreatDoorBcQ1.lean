/- dm of this claim: K1, K2, K3, K4, Q1, Q2. -/
import Derived.Test.YthbdkceckjihgaaGreatDoorBcF
import Derived.KernelRfl
import Derived.Test.YthbdkceckjihgaaGreatDoorBcV4
import Derived.Laws.RangeAny
import Derived.Shelf.Strings.CaseAny
set_option linter.all false
namespace Go.Proofs.YthbdkceckjihgaaGreatDoor
open Go

abbrev Row:=List cJ
variable{α:Type}
def dF{xs ys:List α}(h:xs.length+ys.length<=68719476736):oT xs ys=some (xs++ys):=cx h
def BM(v:cJ):Bool:=(px v).getD false
def GJ(v:cJ):px v=some (BM v):=by
 unfold BM px
 repeat' split
 all_goals rfl
def F8(v:cJ):wm v=some (if BM v then 0 else 120):=by
 obtain⟨k,n,u,s⟩:=v
 unfold BM px wm zl
 simp only [lP,rM,rL,rK]
 by_cases h0:k=0
 ·subst h0;simp
  repeat' split
  all_goals simp_all
 by_cases H:k=1
 ·subst H
  by_cases n0:n=0
  ·subst n0;simp
   repeat' split
   all_goals simp_all
  by_cases n1:n=1
  ·subst n1;simp
   repeat' split
   all_goals simp_all
  simp [n0,n1]
 by_cases J:k=2
 ·subst J;simp
  repeat' split
  all_goals simp_all
 by_cases h3:k=3
 ·subst h3;simp
  repeat' split
  all_goals simp_all
 by_cases h4:k=4
 ·subst h4;simp
  repeat' split
  all_goals simp_all
 simp [h0,H,J,h3,h4]

structure Cmp{α:Type}(f:α->α->Int):Prop where
 rng: ∀x y,f x y= -1\/f x y=0\/f x y=1
 anti: ∀x y,f y x= -f x y
 eq: ∀x y,f x y=0↔x=y
 trans: ∀x y z,f x y<=0->f y z<=0->f x z<=0
def key(v:cJ):Int×Int×Int×cX:=(v.Kind,v.N,v.U,v.S)

section
variable{f:α->α->Int}
def ltB(f:α->α->Int)(x y:α):Bool:=decide (f x y<0)
def Z6(f:α->α->Int)(l:List α):List α:=Xg (ltB f) l
def put(f:α->α->Int)(x:α):List α->List α
 |[]=>[x]
 |y::l=>if f x y<0 then x::y::l else y::put f x l
end
def zZ{α:Type} [DecidableEq α]:α->List α->List α
 |_,[]=>[]
 |p,x::t=>if x=p then zZ x t else x::zZ x t
def Mq [DecidableEq α](p:α):zZ p []=[]:=by unfold zZ;rfl
def Jl [DecidableEq α]{p x:α}(h:x=p)(t:List α):zZ p (x::t)=zZ x t:=by
 conv=>lhs;unfold zZ
 rw [cx h]
def Qs [DecidableEq α]{p x:α}(h: ¬x=p)(t:List α):zZ p (x::t)=x::zZ x t:=by
 conv=>lhs;unfold zZ
 rw [cm h]
def Qr{α:Type} [DecidableEq α]:List α->List α
 |[]=>[]
 |x::t=>x::zZ x t
def Hq{α:Type} [DecidableEq α]: ∀(p:α) (l:List α) (z:α),z∈zZ p l->z∈l
 |p,x::t,z,h=>by
  unfold zZ at h
  split at h
  ·exact oO _ (Hq x t z h)
  ·rcases gn.1 h with rfl|h
   ·exact oh ..
   ·exact oO _ (Hq x t z h)
def GR{α:Type} [DecidableEq α]: ∀(p:α) (l:List α) (z:α),z∈l->z=p\/z∈zZ p l
 |p,x::t,z,h=>by
  unfold zZ
  by_cases D:x=p
  ·rw [cx D]
   rcases gn.1 h with rfl|h
   ·exact .inl D
   ·rcases GR x t z h with h|h
    ·exact .inl (h.trans D)
    ·exact .inr h
  ·rw [cm D]
   rcases gn.1 h with rfl|h
   ·exact .inr (oh ..)
   ·rcases GR x t z h with h|h
    ·exact .inr (by rw [h];exact oh ..)
    ·exact .inr (oO _ h)
def RA [DecidableEq α](l:List α)(z:α):z∈Qr l↔z∈l:=by
 cases l with
 |nil=>exact vz
 |cons x t=>
  constructor
  ·intro h
   rcases gn.1 h with rfl|h
   ·exact oh ..
   ·exact oO _ (Hq x t z h)
  ·intro h
   rcases gn.1 h with rfl|h
   ·exact oh ..
   ·rcases GR x t z h with rfl|h
    ·exact oh ..
    ·exact oO _ h

structure Small(l:List Row):Prop where
 len:l.length<=8000
 row: ∀r∈l,r.length<=1000
def dW{n:Int}(h: -9223372036854775808<=n)(J:n<=9223372036854775807):IntKind.i64.wrap n=n:=by rw [AQ];omega
def xu{xs:List α}{l m:Nat}(h:l<=m)(J:m<=xs.length):dJ xs (l:Int) (m:Int)=some ((xs.take m).drop l):=by
 unfold dJ
 rw [cx (by omega)]
 simp

def jc(n:Nat):Bool:=decide (97<=n)&&decide (n<=122)
def v7(n:Nat):Bool:=decide (48<=n)&&decide (n<=57)
def Zx(n:Nat):Bool:=jc n||v7 n||n==95
def Rr(b:UInt8):Bool:=Zx b.toNat
def ye(n:Nat):xB (n:Int)=some (jc n):=by
 unfold xB jc
 congr 2<;>(rw [AR];omega)
def CY(n:Nat):Aw (n:Int)=some (v7 n):=by
 unfold Aw v7
 congr 2<;>(rw [AR];omega)
def vN(n:Nat):tX (n:Int)=some (jc n):=ye n
def GH(n:Nat):zE (n:Int)=some (v7 n):=CY n
def NR{n:Nat}(h:Zx n=true):n<128:=by
 unfold Zx jc v7 at h
 simp only [zg,jM,mV,wk]at h
 omega
def Ug(n:Nat):((n:Int) !=(95:Int))= !(n==95):=by
 rw [bne,xk]
 simp only [zh,KS,ne_eq]
 omega
variable{i:Nat}
def TW{s:cX}(h:i<s.length)(A:(s[i]).toNat<128):vg s i=((s[i]).toNat,1):=
 decode_ascii ⟨s.toArray⟩ i (show i<(ByteArray.mk s.toArray).size from h) A
def RY{s:cX}(h:i<s.length)(A: ¬(s[i]).toNat<128):128<=(vg s i).1:=
 (decode_high ⟨s.toArray⟩ i (show i<(ByteArray.mk s.toArray).size from h) (show 128<=(s[i]).toNat by omega)).1
def Lv(s:cX): ∀(f i:Nat),s.length<i+f->qH (vJ s f i)=some ((s.drop i).all Rr)
 |0,i,h=>by
  rw [rE (by omega)];rfl
 |f+1,i,h=>by
  unfold vJ
  by_cases hi:i<s.length
  ·rw [cx hi]
   unfold qH
   simp only [CY,ye,bI,Ug]
   rw [sH hi,tI]
   by_cases A:(s[i]).toNat<128
   ·rw [TW hi A]
    simp only []
    have ih:=Lv s f (i+1) (by omega)
    have e:Rr s[i]=(jc (s[i]).toNat||v7 (s[i]).toNat||(s[i]).toNat==95):=rfl
    rw [e]
    cases H:v7 (s[i]).toNat<;>cases J:jc (s[i]).toNat<;>cases h3:((s[i]).toNat==95)<;>simp [ih]
   ·have hh:=RY hi A
    have e:Rr s[i]=false:=by
     cases ho:Rr s[i]with
     |false=>rfl
     |true=>exact absurd (NR ho) A
    have e2:Zx (vg s i).1=false:=by
     cases ho:Zx (vg s i).1 with
     |false=>rfl
     |true=>have:=NR ho;omega
    rw [e,Bool.false_and]
    unfold Zx at e2
    simp only [JA]at e2
    obtain⟨⟨J,H⟩,h3⟩:=e2
    simp [H,J,h3]
  ·rw [cm hi,rE (by omega)];rfl
def F4(s:cX):Bool:=Ym.any fun w=>w==s
def ML(v:cX): ∀(l:List cX) (i:Nat),∃j:Int,ec v l i=some j/\decide (0<=j)=l.any fun w=>w==v
 |[],i=>⟨-1,rfl,rfl⟩
 |e::l,i=>by
  unfold ec
  by_cases h:v=e
  ·subst h
   exact⟨(i:Int),by simp,by simp⟩
  ·obtain⟨j,H,J⟩:=ML v l (i+1)
   exact⟨j,by simp [h,H],by simp [J,Ne.symm h]⟩
def Bi(s:cX):yf s=some (F4 s):=by
 unfold yf fN fB
 obtain⟨j,H,J⟩:=ML s Ym 0
 rw [H]
 simp only [bI,J]
 rfl
def Tj(s:cX): ∀l:List cX,rY s l=some (l.any fun w=>w==s)
 |[]=>rfl
 |e::l=>by
  unfold rY
  rw [Tj s l,xm]
  cases (e==s)<;>rfl
def Fb(s:cX):u5 s=some (F4 s):=by
 unfold u5 zF D1
 rw [bI,Tj]
 rfl
def Ng(b:UInt8):UInt8:=UInt8.ofNat (if jc b.toNat then b.toNat-32 else b.toNat)
def QU: ∀b:UInt8,Ng b=Lib.upperB b:=by
 intro b
 have key: ∀i:Fin 256,Ng (UInt8.ofNat i.val)=Lib.upperB (UInt8.ofNat i.val):=by decide+kernel
 have:=key ⟨b.toNat,b.toNat_lt⟩
 simpa using this
def uT(a b:List Int):oV (a++b)=oV a++oV b:=by simp [oV]
def Ac(s:cX)(hs:s.length<=1000): ∀(n i:Nat) (out:List Int),s.length<i+n->out.length<=i->i<=s.length->lW s n out (i:Int)=some (oV out++(s.drop i).map Ng)
 |0,i,out,h,_,J=>by omega
 |n+1,i,out,h,H,J=>by
  unfold lW
  by_cases hi:i<s.length
  ·rw [cx (by rw [mV];omega)]
   have e:uC s (i:Int)=some ((s[i]).toNat:Int):=by
    unfold uC
    rw [jt,lr hi];rfl
   have hw:IntKind.i64.wrap ((i:Int)+1)=((i+1:Nat):Int):=by rw [AQ];omega
   rw [e,bI,vN,bI,sH hi,uM]
   have hlt:=(s[i]).toNat_lt
   cases hsm:jc (s[i]).toNat with
   |true=>
    have h97:97<=(s[i]).toNat/\(s[i]).toNat<=122:=by simpa [jc] using hsm
    have hc:IntKind.u8.wrap (IntKind.u8.wrap (((s[i]).toNat:Int)-97)+65)=(((s[i]).toNat-32:Nat):Int):=by
     rw [IntKind.wrap_u8,IntKind.wrap_u8];omega
    rw [cx rfl,hc]
    unfold pw
    rw [dF (by simp;omega),bI,hw,Ac s hs n (i+1) _ (by omega) (by simp;omega) (by omega),uT,gF]
    congr 2
    show oV [_]++_=_
    simp only [oV,uM,EB,yZ,qo]
    congr 1
    simp [Ng,hsm]
   |false=>
    rw [cm (by simp)]
    unfold pw
    rw [dF (by simp;omega),bI,hw,Ac s hs n (i+1) _ (by omega) (by simp;omega) (by omega),uT,gF]
    congr 2
    show oV [_]++_=_
    simp only [oV,uM,EB,yZ,qo]
    congr 1
    simp [Ng,hsm]
  ·rw [cm (by rw [mV];omega),rE (by omega)]
   simp
def GI(s:cX)(hs:s.length<=1000):ww s=some (s.map Ng):=by
 unfold ww
 rw [show((0:Int))=((0:Nat):Int)from rfl,Ac s hs fc 0 [] (by unfold fc;omega) (f7 _) (jR _)]
 rfl
def Io(s:cX)(hs:s.length<=1000)(ha: ∀b∈s,Rr b=true):kQ s=some (s.map Ng):=by
 unfold kQ
 rw [cx (by omega),Lib.toUpperD_ascii s (fun b A=>NR (ha b A))]
 unfold Lib.toUpperA
 rw [show Ng=Lib.upperB from funext QU]
def PP:cX->Bool
 |[]=>false
 |b::_=>jc b.toNat
def js(s:cX):Bool:=(decide (1<=s.length)&&decide (s.length<=16)&&PP s)&&(!F4 (s.map Ng)&&s.all Rr)
def D7{b:UInt8}{t:cX}:uC (b::t) (0:Int)=some (b.toNat:Int):=by unfold uC;rfl
def lC(s:cX):lY s=some (js s):=by
 unfold lY js
 cases s with
 |nil=>rfl
 |cons b t=>
  by_cases hl:(b::t).length<=16
  ·rw [cx (by rw [show((b::t)==([]:cX))=false from rfl,Bs,zh,qh];omega),D7,bI]
   have A:=b.toNat_lt
   rw [show IntKind.i32.wrap (b.toNat:Int)=(b.toNat:Int) by rw [IntKind.wrap_i32];omega,ye,bI,bI]
   have e0:(decide (1<=(b::t).length)&&decide ((b::t).length<=16)&&PP (b::t))=jc b.toNat:=by
    rw [rG (show 1<=(b::t).length by simp),rG hl];rfl
   rw [e0]
   cases hsm:jc b.toNat with
   |false=>rfl
   |true=>
    have hr:=Lv (b::t) ((b::t).length+1) 0 (by omega)
    rw [sF]at hr
    have hT:kQ (b::t)=some (Lib.toUpperD (b::t)):=by unfold kQ;rw [cx (by omega)]
    simp only [qY,Bu,jb]
    cases ha:(b::t).all Rr with
    |true=>
     rw [Io (b::t) (by omega) (fun c hc=>ph.1 ha c hc),bI,Bi,bI,bI]
     unfold Lw
     rw [hr,ha]
     cases F4 ((b::t).map Ng)<;>rfl
    |false=>
     rw [hT,bI,Bi,bI,bI]
     unfold Lw
     rw [hr,ha]
     cases F4 (Lib.toUpperD (b::t))<;>simp
  ·rw [cm (by rw [show((b::t)==([]:cX))=false from rfl,Bs,zh,qh,Classical.not_not];omega)]
   rw [um hl]
   simp
def Dz(s:cX)(hs:s.length<=1000): ∀(n i:Nat),s.length<i+n->i<=s.length->ox s n (i:Int)=some ((s.drop i).all Rr)
 |0,i,h,J=>by omega
 |n+1,i,h,J=>by
  unfold ox
  by_cases hi:i<s.length
  ·rw [cx (by rw [mV];omega)]
   have e:uC s (i:Int)=some ((s[i]).toNat:Int):=by
    unfold uC
    rw [jt,lr hi];rfl
   have hw:IntKind.i64.wrap ((i:Int)+1)=((i+1:Nat):Int):=by rw [AQ];omega
   simp only [e,bI,vN,GH,Ug,hw]
   rw [Dz s hs n (i+1) (by omega) (by omega),sH hi,tI]
   have e2:Rr s[i]=(jc (s[i]).toNat||v7 (s[i]).toNat||(s[i]).toNat==95):=rfl
   rw [e2]
   cases H:v7 (s[i]).toNat<;>cases J:jc (s[i]).toNat<;>cases h3:((s[i]).toNat==95)<;>simp
  ·rw [cm (by rw [mV];omega),rE (by omega)]
   rfl
def yO(s:cX):rZ s=some (js s):=by
 unfold rZ js
 cases s with
 |nil=>rfl
 |cons b t=>
  by_cases hl:(b::t).length<=16
  ·rw [cx (by rw [zh,JA,qh,qh];simp at hl ⊢;omega),D7,bI,vN,bI,bI]
   have e0:(decide (1<=(b::t).length)&&decide ((b::t).length<=16)&&PP (b::t))=jc b.toNat:=by
    rw [rG (show 1<=(b::t).length by simp),rG hl];rfl
   rw [e0]
   cases hsm:jc b.toNat with
   |false=>rfl
   |true=>
    simp only [qY,Bu,jb]
    rw [GI _ (by omega),bI,Fb,bI,bI,show((0:Int))=((0:Nat):Int)from rfl,Dz _ (by omega) fc 0 (by unfold fc;omega) (jR _),sF]
    cases F4 ((b::t).map Ng)<;>simp
  ·rw [cm (by rw [zh,JA,qh,qh];omega)]
   rw [um hl]
   simp

def wD(k:Int):Bool:=k==1||k==2||k==3
def Fk(k:Int): ∃r,vh k=some r/\(r==([]:cX))= !wD k:=by
 have g0:fz Yn ((0:Nat):Int)=some ⟨[98,111,111,108],1⟩:=rfl
 have g1:fz Yn ((0+1:Nat):Int)=some ⟨[105,110,116],2⟩:=rfl
 have g2:fz Yn ((0+1+1:Nat):Int)=some ⟨[116,101,120,116],3⟩:=rfl
 unfold vh
 by_cases H:k=1
 ·subst H;exact⟨_,by simp only [kY,g0,bI];rfl,rfl⟩
 by_cases J:k=2
 ·subst J;exact⟨_,by simp only [kY,g0,g1,bI];rfl,rfl⟩
 by_cases h3:k=3
 ·subst h3;exact⟨_,by simp only [kY,g0,g1,g2,bI];rfl,rfl⟩
 have n1:((1:Int)==k)=false:=by simpa using Ne.symm H
 have n2:((2:Int)==k)=false:=by simpa using Ne.symm J
 have n3:((3:Int)==k)=false:=by simpa using Ne.symm h3
 refine⟨[],?_,?_⟩
 ·simp only [kY,g0,g1,g2,bI,n1,n2,n3];rfl
 ·simp [wD,H,J,h3]
def H9(k:Int): ∃r,ya k=some r/\(r==([]:cX))= !wD k:=by
 unfold ya
 by_cases H:k=1
 ·subst H;exact⟨_,rfl,rfl⟩
 by_cases J:k=2
 ·subst J;exact⟨_,rfl,rfl⟩
 by_cases h3:k=3
 ·subst h3;exact⟨_,rfl,rfl⟩
 exact⟨[],by simp [H,J,h3],by simp [wD,H,J,h3]⟩
def Fe(p:List cb)(x:cb):Bool:=p.any fun y=>y.Name==x.Name
def RZ:List cb->List cb->Bool
 |_,[]=>true
 |p,x::t=>(!Fe p x&&js x.Name)&&RZ (p++[x]) t
def Hx:List cb->List cb->Bool
 |_,[]=>true
 |p,x::t=>(js x.Name&&wD x.Kind&& !Fe p x)&&Hx (p++[x]) t
def Kz: ∀(t p:List cb),Hx p t=(RZ p t&&t.all fun x=>wD x.Kind)
 |[],_=>rfl
 |x::t,p=>by
  unfold Hx RZ
  rw [Kz t (p++[x]),tI]
  cases Fe p x<;>cases js x.Name<;>cases wD x.Kind<;>simp
def Th(x:cb)(t:List cb): ∀(p:List cb) (i:Nat),∃k:Nat,dk (fT fX x.Name) (p++x::t) i=some ((i+k:Nat):Int)/\(k !=p.length)=Fe p x
 |[],i=>⟨0,by unfold dk;simp [fT,fX],rfl⟩
 |y::p,i=>by
  rw [yZ]
  unfold dk
  rw [show fT fX x.Name y=some (y.Name==x.Name)from rfl,bI]
  cases h:(y.Name==x.Name)with
  |true=>exact⟨0,rfl,by unfold Fe;rw [xm,h];rfl⟩
  |false=>
   obtain⟨k,H,J⟩:=Th x t p (i+1)
   refine⟨k+1,by rw [cm (by simp),H];congr 2;omega,?_⟩
   unfold Fe at J ⊢
   rw [xm,h,Bs,<-J,ji]
   rw [xk];simp
def aap(x:cb)(p t:List cb): ∃k:Int,kH (p++x::t) fX x.Name=some (k,true)/\(k !=(p.length:Int))=Fe p x:=by
 obtain⟨k,H,J⟩:=Th x t p 0
 refine⟨(k:Int),?_,?_⟩
 ·unfold kH gH
  rw [H,bI,sE]
  have e1:max (k:Int) 0=(k:Int):=by omega
  have e2:decide ((0:Int)<=(k:Int))=true:=rG (by omega)
  rw [e1,e2]
 ·rw [<-J,xk];simp;omega
def Xb: ∀(t p:List cb),gP (p++t) fX t p.length=some (RZ p t)
 |[],p=>rfl
 |x::t,p=>by
  unfold gP
  obtain⟨k,H,J⟩:=aap x p t
  rw [show fX x=some x.Name from rfl,bI,H,bI]
  simp only [J,bI,lC]
  unfold RZ
  have ih:=Xb t (p++[x])
  rw [gF,JB,pg,y8]at ih
  rw [ih]
  cases Fe p x<;>cases js x.Name<;>simp
def JX(l:List cb):nv l fX=some (RZ [] l):=Xb l []
def C0(t:bU): ∀(l:List cb) (ok:Bool),iv t l ok=gw t t.Keys 0 (ok&&l.all fun x=>wD x.Kind)
 |[],ok=>by unfold iv;simp
 |x::l,ok=>by
  unfold iv
  obtain⟨r,H,J⟩:=Fk x.Kind
  cases ok with
  |false=>
   rw [cm (by simp),bI,C0 t l];simp
  |true=>
   rw [cx rfl,H,bI,bI,C0 t l,J,tI];simp
def KQ(n:Nat):Option Int->List Int->Bool
 |_,[]=>true
 |o,k::t=>(decide (0<=k)&&decide (k<(n:Int))&&(o.all fun j=>decide (j<k)))&&KQ n (some k) t
def QK(n:Nat)(o:Option Int)(k:Int)(t:List Int):KQ n o (k::t)=((decide (0<=k)&&decide (k<(n:Int))&&(o.all fun j=>decide (j<k)))&&KQ n (some k) t):=rfl
def IW(l:List Int):Nat->Option Int
 |0=>none
 |i+1=>l[i]?
def CU{l:List Int}(h:i<l.length):IW l (i+1)=some l[i]:=lr h
def L7{l:List Int}(h:i+1<=l.length)(hl:l.length<=100000):fz l (IntKind.i64.wrap (((i+1:Nat):Int)-1))=some l[i]:=by
 rw [show IntKind.i64.wrap (((i+1:Nat):Int)-1)=(i:Int) by rw [AQ];omega,jt,lr (by omega)]
def PJ(t:bU)(hl:t.Keys.length<=100000): ∀(n i:Nat) (ok:Bool),t.Keys.length-i=n->i<=t.Keys.length->gw t (t.Keys.drop i) i ok=some (if ok&&KQ t.Columns.length (IW t.Keys i) (t.Keys.drop i)then 0 else 211)
 |0,i,ok,h,hi=>by
  rw [rE (by omega)]
  unfold gw KQ
  cases ok<;>rfl
 |n+1,i,ok,h,hi=>by
  have hlt:i<t.Keys.length:=by omega
  rw [sH hlt,QK]
  unfold gw
  have ih:=PJ t hl n (i+1)
  rw [CU hlt]at ih
  cases ok with
  |false=>
   simp only [Bool.false_and,kM,jh,bI]
   rw [ih false (by omega) (by omega)];simp
  |true=>
   simp only [wY]
   by_cases H:(0:Int)<=t.Keys[i]
   ·by_cases J:t.Keys[i]<(t.Columns.length:Int)
    ·rw [cx (by rw [rG H,rG J];rfl),rG H,rG J]
     cases i with
     |zero=>
      rw [cm (by simp),bI,bI,ih true (by omega) (by omega)]
      simp [IW]
     |succ j=>
      rw [cx (by simp;omega),L7 (by omega) hl,bI,bI,bI,ih _ (by omega) (by omega),CU (by omega)]
      simp [Option.all]
    ·rw [cm (by rw [um J];simp),bI,ih false (by omega) (by omega),um J];simp
   ·rw [cm (by rw [um H];simp),bI,ih false (by omega) (by omega),um H];simp
def LC(t:bU)(hl:t.Keys.length<=100000): ∀(n i:Nat),t.Keys.length<i+n->i<=t.Keys.length->li t n (i:Int)=some (KQ t.Columns.length (IW t.Keys i) (t.Keys.drop i))
 |0,i,h,hi=>by omega
 |n+1,i,h,hi=>by
  unfold li
  by_cases hlt:i<t.Keys.length
  ·have hw:IntKind.i64.wrap ((i:Int)+1)=((i+1:Nat):Int):=by rw [AQ];omega
   have ih:=LC t hl n (i+1) (by omega) (by omega)
   rw [CU hlt]at ih
   rw [cx (by rw [mV];omega),jt,lr hlt,bI,hw,ih,sH hlt,QK]
   by_cases H:(0:Int)<=t.Keys[i]
   ·by_cases J:t.Keys[i]<(t.Columns.length:Int)
    ·rw [cx (by rw [um (show¬t.Keys[i]<0 by omega),um (show¬(t.Columns.length:Int)<=t.Keys[i] by omega)];rfl),rG H,rG J]
     cases i with
     |zero=>
      rw [cm (by simp)]
      simp [IW]
     |succ j=>
      rw [cx (by rw [mV];omega),L7 (by omega) hl,CU (show j<t.Keys.length by omega)]
      simp only [bI,Option.all,wY]
      by_cases h3:t.Keys[j]<t.Keys[j+1]
      ·rw [rG h3,um (show¬t.Keys[j+1]<=t.Keys[j] by omega)];simp
      ·rw [um h3,rG (show t.Keys[j+1]<=t.Keys[j] by omega)];simp
    ·rw [cm (by rw [rG (show(t.Columns.length:Int)<=t.Keys[i] by omega)];simp),um J];simp
   ·rw [cm (by rw [rG (show t.Keys[i]<0 by omega)];simp),um H];simp
  ·rw [cm (by rw [mV];omega),rE (by omega)];rfl
def xW(t:bU):Bool:=(js t.Name&&decide (1<=t.Columns.length)&&decide (t.Columns.length<=4))&&(Hx [] t.Columns&&KQ t.Columns.length none t.Keys)
def Iq(t:bU)(hl:t.Keys.length<=100000):oa t=some (if xW t then 0 else 211):=by
 unfold oa xW
 rw [lC,bI,Kz]
 have key:=PJ t hl t.Keys.length 0
 rw [sF]at key
 have e1:decide ((1:Int)<=(t.Columns.length:Int))=decide (1<=t.Columns.length):=by rw [AR];omega
 have e2:decide ((t.Columns.length:Int)<=(4:Int))=decide (t.Columns.length<=4):=by rw [AR];omega
 rw [e1,e2]
 cases h:(js t.Name&&decide (1<=t.Columns.length)&&decide (t.Columns.length<=4))with
 |false=>
  rw [cm (by simp),bI,C0,key _ rfl (jR _)];simp
 |true=>
  rw [cx rfl,JX,bI,bI,C0,key _ rfl (jR _)]
  simp [IW]
def IU(t:bU)(nx:Int->Option Bool)(i:Nat)(hi:i<t.Columns.length)(hn:t.Columns.length<=4)(e:cb): ∀(n k:Nat),i<k+n->k<=i->lj t nx (i:Int) e n (k:Int)=if((t.Columns.take i).drop k).any (fun y=>y.Name==e.Name)then some false else nx ((i+1:Nat):Int)
 |0,k,h,hk=>by omega
 |n+1,k,h,hk=>by
  unfold lj
  by_cases hlt:k<i
  ·have hw:IntKind.i64.wrap ((k:Int)+1)=((k+1:Nat):Int):=by rw [AQ];omega
   have hl2:k<(t.Columns.take i).length:=by simp;omega
   rw [cx (by rw [mV];omega),jt,lr (by omega),bI,hw,IU t nx i hi hn e n (k+1) (by omega) (by omega),sH hl2,xm,List.getElem_take]
   cases (t.Columns[k].Name==e.Name)<;>simp
  ·have hw:IntKind.i64.wrap ((i:Int)+1)=((i+1:Nat):Int):=by rw [AQ];omega
   rw [cm (by rw [mV];omega),hw,rE (by simp;omega)]
   simp
def Ps(t:bU)(hn:t.Columns.length<=4)(hl:t.Keys.length<=100000): ∀(n i:Nat),t.Columns.length<i+n->i<=t.Columns.length->jI t n (i:Int)=some (Hx (t.Columns.take i) (t.Columns.drop i)&&KQ t.Columns.length none t.Keys)
 |0,i,h,hi=>by omega
 |n+1,i,h,hi=>by
  unfold jI
  by_cases hlt:i<t.Columns.length
  ·obtain⟨r,H,J⟩:=H9 t.Columns[i].Kind
   have ih:=Ps t hn hl n (i+1) (by omega) (by omega)
   rw [cx (by rw [mV];omega),jt,lr hlt,bI,yO,bI,H,show((0:Int))=((0:Nat):Int)from rfl,IU t _ i hlt hn _ fc 0 (by unfold fc;omega) (jR _),ih,sF,sH hlt,MU hlt,show∀p x t,Hx p (x::t)=((js x.Name&&wD x.Kind&& !Fe p x)&&Hx (p++[x]) t)from fun _ _ _=>rfl]
   simp only [bI,J]
   show _=some ((js t.Columns[i].Name&&wD t.Columns[i].Kind&& !((t.Columns.take i).any fun y=>y.Name==t.Columns[i].Name))&&_&&_)
   cases js t.Columns[i].Name<;>cases wD t.Columns[i].Kind<;>cases ((t.Columns.take i).any fun y=>y.Name==t.Columns[i].Name)<;>simp
  ·rw [cm (by rw [mV];omega),show((0:Int))=((0:Nat):Int)from rfl,LC t hl fc 0 (by unfold fc;omega) (jR _),rE (show t.Columns.length<=i by omega),sF]
   rfl
def Ip(t:bU)(hl:t.Keys.length<=100000):pW t=some (xW t):=by
 unfold pW xW
 rw [yO,bI]
 by_cases H:1<=t.Columns.length
 ·by_cases J:t.Columns.length<=4
  ·rw [um (show¬(t.Columns.length:Int)<1 by omega),um (show¬(4:Int)<(t.Columns.length:Int) by omega),rG H,rG J,show((0:Int))=((0:Nat):Int)from rfl,Ps t J hl fc 0 (by unfold fc;omega) (jR _),List.take_zero,sF]
   cases js t.Name<;>simp
  ·rw [rG (show(4:Int)<(t.Columns.length:Int) by omega),um J];simp
 ·rw [rG (show(t.Columns.length:Int)<1 by omega),um H];simp
def J8(p:List bU)(x:bU):Bool:=p.any fun y=>y.Name==x.Name
def Nl:List bU->List bU->Bool
 |_,[]=>true
 |p,x::t=>(!J8 p x&&js x.Name)&&Nl (p++[x]) t
def Nk:List bU->List bU->Bool
 |_,[]=>true
 |p,x::t=>(xW x&& !J8 p x)&&Nk (p++[x]) t
def SA{t:bU}(h:xW t=true):js t.Name=true:=by
 unfold xW at h
 simp only [jM]at h
 exact h.1.1.1
def JP: ∀(t p:List bU),Nk p t=(t.all xW&&Nl p t)
 |[],_=>rfl
 |x::t,p=>by
  unfold Nk Nl
  rw [JP t (p++[x]),tI]
  cases h:xW x with
  |false=>simp
  |true=>
   rw [SA h]
   cases J8 p x<;>simp
def Tg(x:bU)(t:List bU): ∀(p:List bU) (i:Nat),∃k:Nat,bZ (eB eG x.Name) (p++x::t) i=some ((i+k:Nat):Int)/\(k !=p.length)=J8 p x
 |[],i=>⟨0,by unfold bZ;simp [eB,eG],rfl⟩
 |y::p,i=>by
  rw [yZ]
  unfold bZ
  rw [show eB eG x.Name y=some (y.Name==x.Name)from rfl,bI]
  cases h:(y.Name==x.Name)with
  |true=>exact⟨0,rfl,by unfold J8;rw [xm,h];rfl⟩
  |false=>
   obtain⟨k,H,J⟩:=Tg x t p (i+1)
   refine⟨k+1,by rw [cm (by simp),H];congr 2;omega,?_⟩
   unfold J8 at J ⊢
   rw [xm,h,Bs,<-J,ji]
   rw [xk];simp
def aao(x:bU)(p t:List bU): ∃k:Int,gZ (p++x::t) eG x.Name=some (k,true)/\(k !=(p.length:Int))=J8 p x:=by
 obtain⟨k,H,J⟩:=Tg x t p 0
 refine⟨(k:Int),?_,?_⟩
 ·unfold gZ dH
  rw [H,bI,sE]
  have e1:max (k:Int) 0=(k:Int):=by omega
  have e2:decide ((0:Int)<=(k:Int))=true:=rG (by omega)
  rw [e1,e2]
 ·rw [<-J,xk];simp;omega
def Xa: ∀(t p:List bU),ig (p++t) eG t p.length=some (Nl p t)
 |[],p=>rfl
 |x::t,p=>by
  unfold ig
  obtain⟨k,H,J⟩:=aao x p t
  rw [show eG x=some x.Name from rfl,bI,H,bI]
  simp only [J,bI,lC]
  unfold Nl
  have ih:=Xa t (p++[x])
  rw [gF,JB,pg,y8]at ih
  rw [ih]
  cases J8 p x<;>cases js x.Name<;>simp
def HI(c:aJ):Prop:= ∀t∈c.Tables,t.Keys.length<=100000
def Dl: ∀(l:List bU) (i:Nat),(∀t∈l,t.Keys.length<=100000)-> ∃j:Int,bZ mp l i=some j/\decide (0<=j)= !l.all xW
 |[],i,_=>⟨-1,rfl,rfl⟩
 |x::l,i,h=>by
  unfold bZ
  rw [show mp x=some (!xW x) by unfold mp;rw [Iq x (h x (oh ..)),bI];cases xW x<;>rfl,bI,tI]
  cases D:xW x with
  |false=>exact⟨(i:Int),rfl,by simp⟩
  |true=>
   obtain⟨j,H,J⟩:=Dl l (i+1) fun t M=>h t (oO _ M)
   exact⟨j,by simpa using H,by simpa using J⟩
def OH(c:aJ):Bool:=decide (c.Tables.length<=4)&&Nk [] c.Tables
def Ep{c:aJ}(h:HI c):tF c=some (if OH c then 0 else 210):=by
 unfold tF OH
 obtain⟨j,H,J⟩:=Dl c.Tables 0 h
 have h3:n9 c.Tables eG=some (Nl [] c.Tables):=Xa c.Tables []
 rw [JP]
 by_cases hl:c.Tables.length<=4
 ·rw [um (show¬(4:Int)<(c.Tables.length:Int) by omega),rG hl]
  unfold gB dH
  rw [H,h3]
  simp only [Bu,jb,bI,J]
  cases c.Tables.all xW<;>cases Nl [] c.Tables<;>rfl
 ·rw [rG (show(4:Int)<(c.Tables.length:Int) by omega),um hl];rfl
def IT(c:aJ)(nx:Int->Option Bool)(i:Nat)(hi:i<c.Tables.length)(hn:c.Tables.length<=4)(e:bU): ∀(n k:Nat),i<k+n->k<=i->pr c nx (i:Int) e n (k:Int)=if((c.Tables.take i).drop k).any (fun y=>y.Name==e.Name)then some false else nx ((i+1:Nat):Int)
 |0,k,h,hk=>by omega
 |n+1,k,h,hk=>by
  unfold pr
  by_cases hlt:k<i
  ·have hw:IntKind.i64.wrap ((k:Int)+1)=((k+1:Nat):Int):=by rw [AQ];omega
   have hl2:k<(c.Tables.take i).length:=by simp;omega
   rw [cx (by rw [mV];omega),jt,lr (by omega),bI,hw,IT c nx i hi hn e n (k+1) (by omega) (by omega),sH hl2,xm,List.getElem_take]
   cases (c.Tables[k].Name==e.Name)<;>simp
  ·have hw:IntKind.i64.wrap ((i:Int)+1)=((i+1:Nat):Int):=by rw [AQ];omega
   rw [cm (by rw [mV];omega),hw,rE (by simp;omega)]
   simp
def Pq(c:aJ)(hn:c.Tables.length<=4)(hc:HI c): ∀(n i:Nat),c.Tables.length<i+n->i<=c.Tables.length->nh c n (i:Int)=some (Nk (c.Tables.take i) (c.Tables.drop i))
 |0,i,h,hi=>by omega
 |n+1,i,h,hi=>by
  unfold nh
  by_cases hlt:i<c.Tables.length
  ·have ih:=Pq c hn hc n (i+1) (by omega) (by omega)
   rw [cx (by rw [mV];omega),jt,lr hlt,bI,Ip _ (hc _ (Iv hlt)),bI,show((0:Int))=((0:Nat):Int)from rfl,IT c _ i hlt hn _ fc 0 (by unfold fc;omega) (jR _),ih,sF,sH hlt,MU hlt,show∀p x t,Nk p (x::t)=((xW x&& !J8 p x)&&Nk (p++[x]) t)from fun _ _ _=>rfl]
   show _=some ((xW c.Tables[i]&& !((c.Tables.take i).any fun y=>y.Name==c.Tables[i].Name))&&_)
   cases xW c.Tables[i]<;>cases ((c.Tables.take i).any fun y=>y.Name==c.Tables[i].Name)<;>simp
  ·rw [cm (by rw [mV];omega),rE (show c.Tables.length<=i by omega)]
   rfl
def GD{c:aJ}(h:HI c):wr c=some (OH c):=by
 unfold wr OH
 by_cases hl:c.Tables.length<=4
 ·rw [cm (by rw [mV];omega),show((0:Int))=((0:Nat):Int)from rfl,Pq c hl h fc 0 (by unfold fc;omega) (jR _),rG hl]
  rfl
 ·rw [cx (by rw [mV];omega),um hl];rfl
end Go.Proofs.YthbdkceckjihgaaGreatDoor

