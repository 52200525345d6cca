/- du of this claim: K1, K2, K3, K4, Q1, Q2. -/
import Derived.Test.YthbdkceckjihgaaGreatDoorBbF
import Derived.KernelRfl
import Derived.Test.YthbdkceckjihgaaGreatDoorBbV4
import Derived.Laws.RangeAny
import Derived.Shelf.Strings.CaseAny
set_option linter.all false
namespace Go.Proofs.YthbdkceckjihgaaGreatDoor
open Go

abbrev Row:=List cJ
variable{α:Type}
def dH{xs ys:List α}(h:xs.length+ys.length<=68719476736):oI xs ys=some (xs++ys):=cz h
def BE(v:cJ):Bool:=(pd v).getD false
def GK(v:cJ):pd v=some (BE v):=by
 unfold BE pd
 repeat' split
 all_goals rfl
def Ga(v:cJ):vZ v=some (if BE v then 0 else 120):=by
 obtain⟨k,n,u,s⟩:=v
 unfold BE pd vZ ze
 simp only [lQ,ry,rx,ru]
 by_cases h0:k=0
 ·subst h0;simp
  repeat' split
  all_goals simp_all
 by_cases V:k=1
 ·subst V
  by_cases n0:n=0
  ·subst n0;simp
   repeat' split
   all_goals simp_all
  by_cases n1:n=1
  ·subst n1;simp
   repeat' split
   all_goals simp_all
  simp [n0,n1]
 by_cases Z:k=2
 ·subst Z;simp
  repeat' split
  all_goals simp_all
 by_cases h3:k=3
 ·subst h3;simp
  repeat' split
  all_goals simp_all
 by_cases h4:k=4
 ·subst h4;simp
  repeat' split
  all_goals simp_all
 simp [h0,V,Z,h3,h4]

structure Cmp{α:Type}(f:α->α->Int):Prop where
 rng: ∀x y,f x y= -1\/f x y=0\/f x y=1
 anti: ∀x y,f y x= -f x y
 eq: ∀x y,f x y=0↔x=y
 trans: ∀x y z,f x y<=0->f y z<=0->f x z<=0
def key(v:cJ):Int×Int×Int×cS:=(v.Kind,v.N,v.U,v.S)

section
variable{f:α->α->Int}
def ltB(f:α->α->Int)(x y:α):Bool:=decide (f x y<0)
def ZY(f:α->α->Int)(l:List α):List α:=Xd (ltB f) l
def put(f:α->α->Int)(x:α):List α->List α
 |[]=>[x]
 |y::l=>if f x y<0 then x::y::l else y::put f x l
end
def zN{α:Type} [DecidableEq α]:α->List α->List α
 |_,[]=>[]
 |p,x::t=>if x=p then zN x t else x::zN x t
def Mc [DecidableEq α](p:α):zN p []=[]:=by unfold zN;rfl
def Jd [DecidableEq α]{p x:α}(h:x=p)(t:List α):zN p (x::t)=zN x t:=by
 conv=>lhs;unfold zN
 rw [cz h]
def PX [DecidableEq α]{p x:α}(h: ¬x=p)(t:List α):zN p (x::t)=x::zN x t:=by
 conv=>lhs;unfold zN
 rw [cr h]
def PW{α:Type} [DecidableEq α]:List α->List α
 |[]=>[]
 |x::t=>x::zN x t
def Hm{α:Type} [DecidableEq α]: ∀(p:α) (l:List α) (z:α),z∈zN p l->z∈l
 |p,x::t,z,h=>by
  unfold zN at h
  split at h
  ·exact oD _ (Hm x t z h)
  ·rcases gw.1 h with rfl|h
   ·exact oa ..
   ·exact oD _ (Hm x t z h)
def GT{α:Type} [DecidableEq α]: ∀(p:α) (l:List α) (z:α),z∈l->z=p\/z∈zN p l
 |p,x::t,z,h=>by
  unfold zN
  by_cases A:x=p
  ·rw [cz A]
   rcases gw.1 h with rfl|h
   ·exact .inl A
   ·rcases GT x t z h with h|h
    ·exact .inl (h.trans A)
    ·exact .inr h
  ·rw [cr A]
   rcases gw.1 h with rfl|h
   ·exact .inr (oa ..)
   ·rcases GT x t z h with h|h
    ·exact .inr (by rw [h];exact oa ..)
    ·exact .inr (oD _ h)
def Rg [DecidableEq α](l:List α)(z:α):z∈PW l↔z∈l:=by
 cases l with
 |nil=>exact vl
 |cons x t=>
  constructor
  ·intro h
   rcases gw.1 h with rfl|h
   ·exact oa ..
   ·exact oD _ (Hm x t z h)
  ·intro h
   rcases gw.1 h with rfl|h
   ·exact oa ..
   ·rcases GT x t z h with rfl|h
    ·exact oa ..
    ·exact oD _ h

structure Small(l:List Row):Prop where
 len:l.length<=8000
 row: ∀r∈l,r.length<=1000
def d6{n:Int}(h: -9223372036854775808<=n)(Z:n<=9223372036854775807):IntKind.i64.wrap n=n:=by rw [Bl];omega
def xe{xs:List α}{l m:Nat}(h:l<=m)(Z:m<=xs.length):dN xs (l:Int) (m:Int)=some ((xs.take m).drop l):=by
 unfold dN
 rw [cz (by omega)]
 simp

def jk(n:Nat):Bool:=decide (97<=n)&&decide (n<=122)
def vJ(n:Nat):Bool:=decide (48<=n)&&decide (n<=57)
def Zr(n:Nat):Bool:=jk n||vJ n||n==95
def Q7(b:UInt8):Bool:=Zr b.toNat
def xW(n:Nat):xl (n:Int)=some (jk n):=by
 unfold xl jk
 congr 2<;>(rw [AG];omega)
def CV(n:Nat):Aj (n:Int)=some (vJ n):=by
 unfold Aj vJ
 congr 2<;>(rw [AG];omega)
def vw(n:Nat):tW (n:Int)=some (jk n):=xW n
def GI(n:Nat):zu (n:Int)=some (vJ n):=CV n
def Nw{n:Nat}(h:Zr n=true):n<128:=by
 unfold Zr jk vJ at h
 simp only [y7,jR,nE,vW]at h
 omega
def Uc(n:Nat):((n:Int) !=(95:Int))= !(n==95):=by
 rw [bne,wZ]
 simp only [AI,KG,ne_eq]
 omega
variable{i:Nat}
def TQ{s:cS}(h:i<s.length)(Y:(s[i]).toNat<128):u9 s i=((s[i]).toNat,1):=
 decode_ascii ⟨s.toArray⟩ i (show i<(ByteArray.mk s.toArray).size from h) Y
def RE{s:cS}(h:i<s.length)(Y: ¬(s[i]).toNat<128):128<=(u9 s i).1:=
 (decode_high ⟨s.toArray⟩ i (show i<(ByteArray.mk s.toArray).size from h) (show 128<=(s[i]).toNat by omega)).1
def Lh(s:cS): ∀(f i:Nat),s.length<i+f->qx (vr s f i)=some ((s.drop i).all Q7)
 |0,i,h=>by
  rw [rp (by omega)];rfl
 |f+1,i,h=>by
  unfold vr
  by_cases hi:i<s.length
  ·rw [cz hi]
   unfold qx
   simp only [CV,xW,bH,Uc]
   rw [sG hi,tI]
   by_cases Y:(s[i]).toNat<128
   ·rw [TQ hi Y]
    simp only []
    have ih:=Lh s f (i+1) (by omega)
    have e:Q7 s[i]=(jk (s[i]).toNat||vJ (s[i]).toNat||(s[i]).toNat==95):=rfl
    rw [e]
    cases V:vJ (s[i]).toNat<;>cases Z:jk (s[i]).toNat<;>cases h3:((s[i]).toNat==95)<;>simp [ih]
   ·have hh:=RE hi Y
    have e:Q7 s[i]=false:=by
     cases ho:Q7 s[i]with
     |false=>rfl
     |true=>exact absurd (Nw ho) Y
    have e2:Zr (u9 s i).1=false:=by
     cases ho:Zr (u9 s i).1 with
     |false=>rfl
     |true=>have:=Nw ho;omega
    rw [e,Bool.false_and]
    unfold Zr at e2
    simp only [ED]at e2
    obtain⟨⟨Z,V⟩,h3⟩:=e2
    simp [V,Z,h3]
  ·rw [cr hi,rp (by omega)];rfl
def F6(s:cS):Bool:=Yi.any fun w=>w==s
def Mw(v:cS): ∀(l:List cS) (i:Nat),∃j:Int,ec v l i=some j/\decide (0<=j)=l.any fun w=>w==v
 |[],i=>⟨-1,rfl,rfl⟩
 |e::l,i=>by
  unfold ec
  by_cases h:v=e
  ·subst h
   exact⟨(i:Int),by simp,by simp⟩
  ·obtain⟨j,V,Z⟩:=Mw v l (i+1)
   exact⟨j,by simp [h,V],by simp [Z,Ne.symm h]⟩
def A9(s:cS):xX s=some (F6 s):=by
 unfold xX fM fC
 obtain⟨j,V,Z⟩:=Mw s Yi 0
 rw [V]
 simp only [bH,Z]
 rfl
def Ta(s:cS): ∀l:List cS,rK s l=some (l.any fun w=>w==s)
 |[]=>rfl
 |e::l=>by
  unfold rK
  rw [Ta s l,w7]
  cases (e==s)<;>rfl
def Ff(s:cS):uU s=some (F6 s):=by
 unfold uU zw DU
 rw [bH,Ta]
 rfl
def MN(b:UInt8):UInt8:=UInt8.ofNat (if jk b.toNat then b.toNat-32 else b.toNat)
def Qz: ∀b:UInt8,MN b=Lib.upperB b:=by
 intro b
 have key: ∀i:Fin 256,MN (UInt8.ofNat i.val)=Lib.upperB (UInt8.ofNat i.val):=by decide+kernel
 have:=key ⟨b.toNat,b.toNat_lt⟩
 simpa using this
def uL(a b:List Int):oL (a++b)=oL a++oL b:=by simp [oL]
def zW(s:cS)(hs:s.length<=1000): ∀(n i:Nat) (out:List Int),s.length<i+n->out.length<=i->i<=s.length->lY s n out (i:Int)=some (oL out++(s.drop i).map MN)
 |0,i,out,h,_,Z=>by omega
 |n+1,i,out,h,V,Z=>by
  unfold lY
  by_cases hi:i<s.length
  ·rw [cz (by rw [nE];omega)]
   have e:uy s (i:Int)=some ((s[i]).toNat:Int):=by
    unfold uy
    rw [kr,lP hi];rfl
   have hw:IntKind.i64.wrap ((i:Int)+1)=((i+1:Nat):Int):=by rw [Bl];omega
   rw [e,bH,vw,bH,sG hi,uG]
   have hlt:=(s[i]).toNat_lt
   cases hsm:jk (s[i]).toNat with
   |true=>
    have h97:97<=(s[i]).toNat/\(s[i]).toNat<=122:=by simpa [jk] using hsm
    have hc:IntKind.u8.wrap (IntKind.u8.wrap (((s[i]).toNat:Int)-97)+65)=(((s[i]).toNat-32:Nat):Int):=by
     rw [IntKind.wrap_u8,IntKind.wrap_u8];omega
    rw [cz rfl,hc]
    unfold pc
    rw [dH (by simp;omega),bH,hw,zW s hs n (i+1) _ (by omega) (by simp;omega) (by omega),uL,gK]
    congr 2
    show oL [_]++_=_
    simp only [oL,uG,Ez,yU,qg]
    congr 1
    simp [MN,hsm]
   |false=>
    rw [cr (by simp)]
    unfold pc
    rw [dH (by simp;omega),bH,hw,zW s hs n (i+1) _ (by omega) (by simp;omega) (by omega),uL,gK]
    congr 2
    show oL [_]++_=_
    simp only [oL,uG,Ez,yU,qg]
    congr 1
    simp [MN,hsm]
  ·rw [cr (by rw [nE];omega),rp (by omega)]
   simp
def GJ(s:cS)(hs:s.length<=1000):wg s=some (s.map MN):=by
 unfold wg
 rw [show((0:Int))=((0:Nat):Int)from rfl,zW s hs gi 0 [] (by unfold gi;omega) (gc _) (jW _)]
 rfl
def Ih(s:cS)(hs:s.length<=1000)(ha: ∀b∈s,Q7 b=true):kX s=some (s.map MN):=by
 unfold kX
 rw [cz (by omega),Lib.toUpperD_ascii s (fun b Y=>Nw (ha b Y))]
 unfold Lib.toUpperA
 rw [show MN=Lib.upperB from funext Qz]
def Pv:cS->Bool
 |[]=>false
 |b::_=>jk b.toNat
def jx(s:cS):Bool:=(decide (1<=s.length)&&decide (s.length<=16)&&Pv s)&&(!F6 (s.map MN)&&s.all Q7)
def D2{b:UInt8}{t:cS}:uy (b::t) (0:Int)=some (b.toNat:Int):=by unfold uy;rfl
def lE(s:cS):ma s=some (jx s):=by
 unfold ma jx
 cases s with
 |nil=>rfl
 |cons b t=>
  by_cases hl:(b::t).length<=16
  ·rw [cz (by rw [show((b::t)==([]:cS))=false from rfl,Bi,AI,qM];omega),D2,bH]
   have Y:=b.toNat_lt
   rw [show IntKind.i32.wrap (b.toNat:Int)=(b.toNat:Int) by rw [IntKind.wrap_i32];omega,xW,bH,bH]
   have e0:(decide (1<=(b::t).length)&&decide ((b::t).length<=16)&&Pv (b::t))=jk b.toNat:=by
    rw [rr (show 1<=(b::t).length by simp),rr hl];rfl
   rw [e0]
   cases hsm:jk b.toNat with
   |false=>rfl
   |true=>
    have hr:=Lh (b::t) ((b::t).length+1) 0 (by omega)
    rw [sC]at hr
    have hT:kX (b::t)=some (Lib.toUpperD (b::t)):=by unfold kX;rw [cz (by omega)]
    simp only [rn,Cd,jo]
    cases ha:(b::t).all Q7 with
    |true=>
     rw [Ih (b::t) (by omega) (fun c hc=>pG.1 ha c hc),bH,A9,bH,bH]
     unfold Li
     rw [hr,ha]
     cases F6 ((b::t).map MN)<;>rfl
    |false=>
     rw [hT,bH,A9,bH,bH]
     unfold Li
     rw [hr,ha]
     cases F6 (Lib.toUpperD (b::t))<;>simp
  ·rw [cr (by rw [show((b::t)==([]:cS))=false from rfl,Bi,AI,qM,Classical.not_not];omega)]
   rw [uj hl]
   simp
def Dr(s:cS)(hs:s.length<=1000): ∀(n i:Nat),s.length<i+n->i<=s.length->ol s n (i:Int)=some ((s.drop i).all Q7)
 |0,i,h,Z=>by omega
 |n+1,i,h,Z=>by
  unfold ol
  by_cases hi:i<s.length
  ·rw [cz (by rw [nE];omega)]
   have e:uy s (i:Int)=some ((s[i]).toNat:Int):=by
    unfold uy
    rw [kr,lP hi];rfl
   have hw:IntKind.i64.wrap ((i:Int)+1)=((i+1:Nat):Int):=by rw [Bl];omega
   simp only [e,bH,vw,GI,Uc,hw]
   rw [Dr s hs n (i+1) (by omega) (by omega),sG hi,tI]
   have e2:Q7 s[i]=(jk (s[i]).toNat||vJ (s[i]).toNat||(s[i]).toNat==95):=rfl
   rw [e2]
   cases V:vJ (s[i]).toNat<;>cases Z:jk (s[i]).toNat<;>cases h3:((s[i]).toNat==95)<;>simp
  ·rw [cr (by rw [nE];omega),rp (by omega)]
   rfl
def yI(s:cS):rL s=some (jx s):=by
 unfold rL jx
 cases s with
 |nil=>rfl
 |cons b t=>
  by_cases hl:(b::t).length<=16
  ·rw [cz (by rw [AI,ED,qM,qM];simp at hl ⊢;omega),D2,bH,vw,bH,bH]
   have e0:(decide (1<=(b::t).length)&&decide ((b::t).length<=16)&&Pv (b::t))=jk b.toNat:=by
    rw [rr (show 1<=(b::t).length by simp),rr hl];rfl
   rw [e0]
   cases hsm:jk b.toNat with
   |false=>rfl
   |true=>
    simp only [rn,Cd,jo]
    rw [GJ _ (by omega),bH,Ff,bH,bH,show((0:Int))=((0:Nat):Int)from rfl,Dr _ (by omega) gi 0 (by unfold gi;omega) (jW _),sC]
    cases F6 ((b::t).map MN)<;>simp
  ·rw [cr (by rw [AI,ED,qM,qM];omega)]
   rw [uj hl]
   simp

def wo(k:Int):Bool:=k==1||k==2||k==3
def Fo(k:Int): ∃r,va k=some r/\(r==([]:cS))= !wo k:=by
 have g0:fB Yj ((0:Nat):Int)=some ⟨[98,111,111,108],1⟩:=rfl
 have g1:fB Yj ((0+1:Nat):Int)=some ⟨[105,110,116],2⟩:=rfl
 have g2:fB Yj ((0+1+1:Nat):Int)=some ⟨[116,101,120,116],3⟩:=rfl
 unfold va
 by_cases V:k=1
 ·subst V;exact⟨_,by simp only [ld,g0,bH];rfl,rfl⟩
 by_cases Z:k=2
 ·subst Z;exact⟨_,by simp only [ld,g0,g1,bH];rfl,rfl⟩
 by_cases h3:k=3
 ·subst h3;exact⟨_,by simp only [ld,g0,g1,g2,bH];rfl,rfl⟩
 have n1:((1:Int)==k)=false:=by simpa using Ne.symm V
 have n2:((2:Int)==k)=false:=by simpa using Ne.symm Z
 have n3:((3:Int)==k)=false:=by simpa using Ne.symm h3
 refine⟨[],?_,?_⟩
 ·simp only [ld,g0,g1,g2,bH,n1,n2,n3];rfl
 ·simp [wo,V,Z,h3]
def H4(k:Int): ∃r,xS k=some r/\(r==([]:cS))= !wo k:=by
 unfold xS
 by_cases V:k=1
 ·subst V;exact⟨_,rfl,rfl⟩
 by_cases Z:k=2
 ·subst Z;exact⟨_,rfl,rfl⟩
 by_cases h3:k=3
 ·subst h3;exact⟨_,rfl,rfl⟩
 exact⟨[],by simp [V,Z,h3],by simp [wo,V,Z,h3]⟩
def Fi(p:List cd)(x:cd):Bool:=p.any fun y=>y.Name==x.Name
def RF:List cd->List cd->Bool
 |_,[]=>true
 |p,x::t=>(!Fi p x&&jx x.Name)&&RF (p++[x]) t
def Hs:List cd->List cd->Bool
 |_,[]=>true
 |p,x::t=>(jx x.Name&&wo x.Kind&& !Fi p x)&&Hs (p++[x]) t
def Ko: ∀(t p:List cd),Hs p t=(RF p t&&t.all fun x=>wo x.Kind)
 |[],_=>rfl
 |x::t,p=>by
  unfold Hs RF
  rw [Ko t (p++[x]),tI]
  cases Fi p x<;>cases jx x.Name<;>cases wo x.Kind<;>simp
def S9(x:cd)(t:List cd): ∀(p:List cd) (i:Nat),∃k:Nat,dn (fS fZ x.Name) (p++x::t) i=some ((i+k:Nat):Int)/\(k !=p.length)=Fi p x
 |[],i=>⟨0,by unfold dn;simp [fS,fZ],rfl⟩
 |y::p,i=>by
  rw [yU]
  unfold dn
  rw [show fS fZ x.Name y=some (y.Name==x.Name)from rfl,bH]
  cases h:(y.Name==x.Name)with
  |true=>exact⟨0,rfl,by unfold Fi;rw [w7,h];rfl⟩
  |false=>
   obtain⟨k,V,Z⟩:=S9 x t p (i+1)
   refine⟨k+1,by rw [cr (by simp),V];congr 2;omega,?_⟩
   unfold Fi at Z ⊢
   rw [w7,h,Bi,<-Z,jm]
   rw [wZ];simp
def aah(x:cd)(p t:List cd): ∃k:Int,kS (p++x::t) fZ x.Name=some (k,true)/\(k !=(p.length:Int))=Fi p x:=by
 obtain⟨k,V,Z⟩:=S9 x t p 0
 refine⟨(k:Int),?_,?_⟩
 ·unfold kS gM
  rw [V,bH,sB]
  have e1:max (k:Int) 0=(k:Int):=by omega
  have e2:decide ((0:Int)<=(k:Int))=true:=rr (by omega)
  rw [e1,e2]
 ·rw [<-Z,wZ];simp;omega
def WZ: ∀(t p:List cd),gS (p++t) fZ t p.length=some (RF p t)
 |[],p=>rfl
 |x::t,p=>by
  unfold gS
  obtain⟨k,V,Z⟩:=aah x p t
  rw [show fZ x=some x.Name from rfl,bH,V,bH]
  simp only [Z,bH,lE]
  unfold RF
  have ih:=WZ t (p++[x])
  rw [gK,Ju,pF,y9]at ih
  rw [ih]
  cases Fi p x<;>cases jx x.Name<;>simp
def JM(l:List cd):nr l fZ=some (RF [] l):=WZ l []
def CX(t:ce): ∀(l:List cd) (ok:Bool),iB t l ok=gB t t.Keys 0 (ok&&l.all fun x=>wo x.Kind)
 |[],ok=>by unfold iB;simp
 |x::l,ok=>by
  unfold iB
  obtain⟨r,V,Z⟩:=Fo x.Kind
  cases ok with
  |false=>
   rw [cr (by simp),bH,CX t l];simp
  |true=>
   rw [cz rfl,V,bH,bH,CX t l,Z,tI];simp
def KQ(n:Nat):Option Int->List Int->Bool
 |_,[]=>true
 |o,k::t=>(decide (0<=k)&&decide (k<(n:Int))&&(o.all fun j=>decide (j<k)))&&KQ n (some k) t
def Qo(n:Nat)(o:Option Int)(k:Int)(t:List Int):KQ n o (k::t)=((decide (0<=k)&&decide (k<(n:Int))&&(o.all fun j=>decide (j<k)))&&KQ n (some k) t):=rfl
def IP(l:List Int):Nat->Option Int
 |0=>none
 |i+1=>l[i]?
def CQ{l:List Int}(h:i<l.length):IP l (i+1)=some l[i]:=lP h
def LQ{l:List Int}(h:i+1<=l.length)(hl:l.length<=100000):fB l (IntKind.i64.wrap (((i+1:Nat):Int)-1))=some l[i]:=by
 rw [show IntKind.i64.wrap (((i+1:Nat):Int)-1)=(i:Int) by rw [Bl];omega,kr,lP (by omega)]
def Po(t:ce)(hl:t.Keys.length<=100000): ∀(n i:Nat) (ok:Bool),t.Keys.length-i=n->i<=t.Keys.length->gB t (t.Keys.drop i) i ok=some (if ok&&KQ t.Columns.length (IP t.Keys i) (t.Keys.drop i)then 0 else 211)
 |0,i,ok,h,hi=>by
  rw [rp (by omega)]
  unfold gB KQ
  cases ok<;>rfl
 |n+1,i,ok,h,hi=>by
  have hlt:i<t.Keys.length:=by omega
  rw [sG hlt,Qo]
  unfold gB
  have ih:=Po t hl n (i+1)
  rw [CQ hlt]at ih
  cases ok with
  |false=>
   simp only [Bool.false_and,lu,jQ,bH]
   rw [ih false (by omega) (by omega)];simp
  |true=>
   simp only [wK]
   by_cases V:(0:Int)<=t.Keys[i]
   ·by_cases Z:t.Keys[i]<(t.Columns.length:Int)
    ·rw [cz (by rw [rr V,rr Z];rfl),rr V,rr Z]
     cases i with
     |zero=>
      rw [cr (by simp),bH,bH,ih true (by omega) (by omega)]
      simp [IP]
     |succ j=>
      rw [cz (by simp;omega),LQ (by omega) hl,bH,bH,bH,ih _ (by omega) (by omega),CQ (by omega)]
      simp [Option.all]
    ·rw [cr (by rw [uj Z];simp),bH,ih false (by omega) (by omega),uj Z];simp
   ·rw [cr (by rw [uj V];simp),bH,ih false (by omega) (by omega),uj V];simp
def Ln(t:ce)(hl:t.Keys.length<=100000): ∀(n i:Nat),t.Keys.length<i+n->i<=t.Keys.length->lj t n (i:Int)=some (KQ t.Columns.length (IP t.Keys i) (t.Keys.drop i))
 |0,i,h,hi=>by omega
 |n+1,i,h,hi=>by
  unfold lj
  by_cases hlt:i<t.Keys.length
  ·have hw:IntKind.i64.wrap ((i:Int)+1)=((i+1:Nat):Int):=by rw [Bl];omega
   have ih:=Ln t hl n (i+1) (by omega) (by omega)
   rw [CQ hlt]at ih
   rw [cz (by rw [nE];omega),kr,lP hlt,bH,hw,ih,sG hlt,Qo]
   by_cases V:(0:Int)<=t.Keys[i]
   ·by_cases Z:t.Keys[i]<(t.Columns.length:Int)
    ·rw [cz (by rw [uj (show¬t.Keys[i]<0 by omega),uj (show¬(t.Columns.length:Int)<=t.Keys[i] by omega)];rfl),rr V,rr Z]
     cases i with
     |zero=>
      rw [cr (by simp)]
      simp [IP]
     |succ j=>
      rw [cz (by rw [nE];omega),LQ (by omega) hl,CQ (show j<t.Keys.length by omega)]
      simp only [bH,Option.all,wK]
      by_cases h3:t.Keys[j]<t.Keys[j+1]
      ·rw [rr h3,uj (show¬t.Keys[j+1]<=t.Keys[j] by omega)];simp
      ·rw [uj h3,rr (show t.Keys[j+1]<=t.Keys[j] by omega)];simp
    ·rw [cr (by rw [rr (show(t.Columns.length:Int)<=t.Keys[i] by omega)];simp),uj Z];simp
   ·rw [cr (by rw [rr (show t.Keys[i]<0 by omega)];simp),uj V];simp
  ·rw [cr (by rw [nE];omega),rp (by omega)];rfl
def xO(t:ce):Bool:=(jx t.Name&&decide (1<=t.Columns.length)&&decide (t.Columns.length<=4))&&(Hs [] t.Columns&&KQ t.Columns.length none t.Keys)
def Ij(t:ce)(hl:t.Keys.length<=100000):n6 t=some (if xO t then 0 else 211):=by
 unfold n6 xO
 rw [lE,bH,Ko]
 have key:=Po t hl t.Keys.length 0
 rw [sC]at key
 have e1:decide ((1:Int)<=(t.Columns.length:Int))=decide (1<=t.Columns.length):=by rw [AG];omega
 have e2:decide ((t.Columns.length:Int)<=(4:Int))=decide (t.Columns.length<=4):=by rw [AG];omega
 rw [e1,e2]
 cases h:(jx t.Name&&decide (1<=t.Columns.length)&&decide (t.Columns.length<=4))with
 |false=>
  rw [cr (by simp),bH,CX,key _ rfl (jW _)];simp
 |true=>
  rw [cz rfl,JM,bH,bH,CX,key _ rfl (jW _)]
  simp [IP]
def IL(t:ce)(nx:Int->Option Bool)(i:Nat)(hi:i<t.Columns.length)(hn:t.Columns.length<=4)(e:cd): ∀(n k:Nat),i<k+n->k<=i->lk t nx (i:Int) e n (k:Int)=if((t.Columns.take i).drop k).any (fun y=>y.Name==e.Name)then some false else nx ((i+1:Nat):Int)
 |0,k,h,hk=>by omega
 |n+1,k,h,hk=>by
  unfold lk
  by_cases hlt:k<i
  ·have hw:IntKind.i64.wrap ((k:Int)+1)=((k+1:Nat):Int):=by rw [Bl];omega
   have hl2:k<(t.Columns.take i).length:=by simp;omega
   rw [cz (by rw [nE];omega),kr,lP (by omega),bH,hw,IL t nx i hi hn e n (k+1) (by omega) (by omega),sG hl2,w7,List.getElem_take]
   cases (t.Columns[k].Name==e.Name)<;>simp
  ·have hw:IntKind.i64.wrap ((i:Int)+1)=((i+1:Nat):Int):=by rw [Bl];omega
   rw [cr (by rw [nE];omega),hw,rp (by simp;omega)]
   simp
def O7(t:ce)(hn:t.Columns.length<=4)(hl:t.Keys.length<=100000): ∀(n i:Nat),t.Columns.length<i+n->i<=t.Columns.length->jM t n (i:Int)=some (Hs (t.Columns.take i) (t.Columns.drop i)&&KQ t.Columns.length none t.Keys)
 |0,i,h,hi=>by omega
 |n+1,i,h,hi=>by
  unfold jM
  by_cases hlt:i<t.Columns.length
  ·obtain⟨r,V,Z⟩:=H4 t.Columns[i].Kind
   have ih:=O7 t hn hl n (i+1) (by omega) (by omega)
   rw [cz (by rw [nE];omega),kr,lP hlt,bH,yI,bH,V,show((0:Int))=((0:Nat):Int)from rfl,IL t _ i hlt hn _ gi 0 (by unfold gi;omega) (jW _),ih,sC,sG hlt,MF hlt,show∀p x t,Hs p (x::t)=((jx x.Name&&wo x.Kind&& !Fi p x)&&Hs (p++[x]) t)from fun _ _ _=>rfl]
   simp only [bH,Z]
   show _=some ((jx t.Columns[i].Name&&wo t.Columns[i].Kind&& !((t.Columns.take i).any fun y=>y.Name==t.Columns[i].Name))&&_&&_)
   cases jx t.Columns[i].Name<;>cases wo t.Columns[i].Kind<;>cases ((t.Columns.take i).any fun y=>y.Name==t.Columns[i].Name)<;>simp
  ·rw [cr (by rw [nE];omega),show((0:Int))=((0:Nat):Int)from rfl,Ln t hl gi 0 (by unfold gi;omega) (jW _),rp (show t.Columns.length<=i by omega),sC]
   rfl
def Ii(t:ce)(hl:t.Keys.length<=100000):pL t=some (xO t):=by
 unfold pL xO
 rw [yI,bH]
 by_cases V:1<=t.Columns.length
 ·by_cases Z:t.Columns.length<=4
  ·rw [uj (show¬(t.Columns.length:Int)<1 by omega),uj (show¬(4:Int)<(t.Columns.length:Int) by omega),rr V,rr Z,show((0:Int))=((0:Nat):Int)from rfl,O7 t Z hl gi 0 (by unfold gi;omega) (jW _),List.take_zero,sC]
   cases jx t.Name<;>simp
  ·rw [rr (show(4:Int)<(t.Columns.length:Int) by omega),uj Z];simp
 ·rw [rr (show(t.Columns.length:Int)<1 by omega),uj V];simp
def JW(p:List ce)(x:ce):Bool:=p.any fun y=>y.Name==x.Name
def MR:List ce->List ce->Bool
 |_,[]=>true
 |p,x::t=>(!JW p x&&jx x.Name)&&MR (p++[x]) t
def MQ:List ce->List ce->Bool
 |_,[]=>true
 |p,x::t=>(xO x&& !JW p x)&&MQ (p++[x]) t
def So{t:ce}(h:xO t=true):jx t.Name=true:=by
 unfold xO at h
 simp only [jR]at h
 exact h.1.1.1
def JF: ∀(t p:List ce),MQ p t=(t.all xO&&MR p t)
 |[],_=>rfl
 |x::t,p=>by
  unfold MQ MR
  rw [JF t (p++[x]),tI]
  cases h:xO x with
  |false=>simp
  |true=>
   rw [So h]
   cases JW p x<;>simp
def S8(x:ce)(t:List ce): ∀(p:List ce) (i:Nat),∃k:Nat,ca (eC eH x.Name) (p++x::t) i=some ((i+k:Nat):Int)/\(k !=p.length)=JW p x
 |[],i=>⟨0,by unfold ca;simp [eC,eH],rfl⟩
 |y::p,i=>by
  rw [yU]
  unfold ca
  rw [show eC eH x.Name y=some (y.Name==x.Name)from rfl,bH]
  cases h:(y.Name==x.Name)with
  |true=>exact⟨0,rfl,by unfold JW;rw [w7,h];rfl⟩
  |false=>
   obtain⟨k,V,Z⟩:=S8 x t p (i+1)
   refine⟨k+1,by rw [cr (by simp),V];congr 2;omega,?_⟩
   unfold JW at Z ⊢
   rw [w7,h,Bi,<-Z,jm]
   rw [wZ];simp
def aag(x:ce)(p t:List ce): ∃k:Int,hY (p++x::t) eH x.Name=some (k,true)/\(k !=(p.length:Int))=JW p x:=by
 obtain⟨k,V,Z⟩:=S8 x t p 0
 refine⟨(k:Int),?_,?_⟩
 ·unfold hY dK
  rw [V,bH,sB]
  have e1:max (k:Int) 0=(k:Int):=by omega
  have e2:decide ((0:Int)<=(k:Int))=true:=rr (by omega)
  rw [e1,e2]
 ·rw [<-Z,wZ];simp;omega
def WY: ∀(t p:List ce),ik (p++t) eH t p.length=some (MR p t)
 |[],p=>rfl
 |x::t,p=>by
  unfold ik
  obtain⟨k,V,Z⟩:=aag x p t
  rw [show eH x=some x.Name from rfl,bH,V,bH]
  simp only [Z,bH,lE]
  unfold MR
  have ih:=WY t (p++[x])
  rw [gK,Ju,pF,y9]at ih
  rw [ih]
  cases JW p x<;>cases jx x.Name<;>simp
def HD(c:aR):Prop:= ∀t∈c.Tables,t.Keys.length<=100000
def De: ∀(l:List ce) (i:Nat),(∀t∈l,t.Keys.length<=100000)-> ∃j:Int,ca mu l i=some j/\decide (0<=j)= !l.all xO
 |[],i,_=>⟨-1,rfl,rfl⟩
 |x::l,i,h=>by
  unfold ca
  rw [show mu x=some (!xO x) by unfold mu;rw [Ij x (h x (oa ..)),bH];cases xO x<;>rfl,bH,tI]
  cases A:xO x with
  |false=>exact⟨(i:Int),rfl,by simp⟩
  |true=>
   obtain⟨j,V,Z⟩:=De l (i+1) fun t M=>h t (oD _ M)
   exact⟨j,by simpa using V,by simpa using Z⟩
def Og(c:aR):Bool:=decide (c.Tables.length<=4)&&MQ [] c.Tables
def Em{c:aR}(h:HD c):tF c=some (if Og c then 0 else 210):=by
 unfold tF Og
 obtain⟨j,V,Z⟩:=De c.Tables 0 h
 have h3:n5 c.Tables eH=some (MR [] c.Tables):=WY c.Tables []
 rw [JF]
 by_cases hl:c.Tables.length<=4
 ·rw [uj (show¬(4:Int)<(c.Tables.length:Int) by omega),rr hl]
  unfold gF dK
  rw [V,h3]
  simp only [Cd,jo,bH,Z]
  cases c.Tables.all xO<;>cases MR [] c.Tables<;>rfl
 ·rw [rr (show(4:Int)<(c.Tables.length:Int) by omega),uj hl];rfl
def IK(c:aR)(nx:Int->Option Bool)(i:Nat)(hi:i<c.Tables.length)(hn:c.Tables.length<=4)(e:ce): ∀(n k:Nat),i<k+n->k<=i->o8 c nx (i:Int) e n (k:Int)=if((c.Tables.take i).drop k).any (fun y=>y.Name==e.Name)then some false else nx ((i+1:Nat):Int)
 |0,k,h,hk=>by omega
 |n+1,k,h,hk=>by
  unfold o8
  by_cases hlt:k<i
  ·have hw:IntKind.i64.wrap ((k:Int)+1)=((k+1:Nat):Int):=by rw [Bl];omega
   have hl2:k<(c.Tables.take i).length:=by simp;omega
   rw [cz (by rw [nE];omega),kr,lP (by omega),bH,hw,IK c nx i hi hn e n (k+1) (by omega) (by omega),sG hl2,w7,List.getElem_take]
   cases (c.Tables[k].Name==e.Name)<;>simp
  ·have hw:IntKind.i64.wrap ((i:Int)+1)=((i+1:Nat):Int):=by rw [Bl];omega
   rw [cr (by rw [nE];omega),hw,rp (by simp;omega)]
   simp
def O5(c:aR)(hn:c.Tables.length<=4)(hc:HD c): ∀(n i:Nat),c.Tables.length<i+n->i<=c.Tables.length->nb c n (i:Int)=some (MQ (c.Tables.take i) (c.Tables.drop i))
 |0,i,h,hi=>by omega
 |n+1,i,h,hi=>by
  unfold nb
  by_cases hlt:i<c.Tables.length
  ·have ih:=O5 c hn hc n (i+1) (by omega) (by omega)
   rw [cz (by rw [nE];omega),kr,lP hlt,bH,Ii _ (hc _ (KD hlt)),bH,show((0:Int))=((0:Nat):Int)from rfl,IK c _ i hlt hn _ gi 0 (by unfold gi;omega) (jW _),ih,sC,sG hlt,MF hlt,show∀p x t,MQ p (x::t)=((xO x&& !JW p x)&&MQ (p++[x]) t)from fun _ _ _=>rfl]
   show _=some ((xO c.Tables[i]&& !((c.Tables.take i).any fun y=>y.Name==c.Tables[i].Name))&&_)
   cases xO c.Tables[i]<;>cases ((c.Tables.take i).any fun y=>y.Name==c.Tables[i].Name)<;>simp
  ·rw [cr (by rw [nE];omega),rp (show c.Tables.length<=i by omega)]
   rfl
def GE{c:aR}(h:HD c):wb c=some (Og c):=by
 unfold wb Og
 by_cases hl:c.Tables.length<=4
 ·rw [cr (by rw [nE];omega),show((0:Int))=((0:Nat):Int)from rfl,O5 c hl h gi 0 (by unfold gi;omega) (jW _),rr hl]
  rfl
 ·rw [cz (by rw [nE];omega),uj hl];rfl
end Go.Proofs.YthbdkceckjihgaaGreatDoor

