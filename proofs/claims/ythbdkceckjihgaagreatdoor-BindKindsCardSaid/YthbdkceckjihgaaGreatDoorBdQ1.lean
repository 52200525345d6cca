/- cm of this claim: K1, K2, K3, K4, Q1, Q2. -/
import Derived.Test.YthbdkceckjihgaaGreatDoorBdF
import Derived.KernelRfl
import Derived.Test.YthbdkceckjihgaaGreatDoorBdV4
import Derived.Laws.RangeAny
import Derived.Shelf.Strings.CaseAny
set_option linter.all false
namespace Go.Proofs.YthbdkceckjihgaaGreatDoor
open Go

abbrev Row:=List bZ
variable{α:Type}
def cW{xs ys:List α}(h:xs.length+ys.length<=68719476736):lX xs ys=some (xs++ys):=bK h
def xa(v:bZ):Bool:=(nG v).getD false
def CB(v:bZ):nG v=some (xa v):=by
 unfold xa nG
 repeat' split
 all_goals rfl
def Cb(v:bZ):rf v=some (if xa v then 0 else 120):=by
 obtain⟨k,n,u,s⟩:=v
 unfold xa nG rf uB
 simp only [jv,nV,nU,nT]
 by_cases h0:k=0
 ·subst h0;simp
  repeat' split
  all_goals simp_all
 by_cases A:k=1
 ·subst A
  by_cases n0:n=0
  ·subst n0;simp
   repeat' split
   all_goals simp_all
  by_cases n1:n=1
  ·subst n1;simp
   repeat' split
   all_goals simp_all
  simp [n0,n1]
 by_cases V:k=2
 ·subst V;simp
  repeat' split
  all_goals simp_all
 by_cases h3:k=3
 ·subst h3;simp
  repeat' split
  all_goals simp_all
 by_cases h4:k=4
 ·subst h4;simp
  repeat' split
  all_goals simp_all
 simp [h0,A,V,h3,h4]

structure Cmp{α:Type}(f:α->α->Int):Prop where
 rng: ∀x y,f x y= -1\/f x y=0\/f x y=1
 anti: ∀x y,f y x= -f x y
 eq: ∀x y,f x y=0↔x=y
 trans: ∀x y z,f x y<=0->f y z<=0->f x z<=0
def key(v:bZ):Int×Int×Int×cB:=(v.Kind,v.N,v.U,v.S)

section
variable{f:α->α->Int}
def ltB(f:α->α->Int)(x y:α):Bool:=decide (f x y<0)
def Vd(f:α->α->Int)(l:List α):List α:=Sw (ltB f) l
def put(f:α->α->Int)(x:α):List α->List α
 |[]=>[x]
 |y::l=>if f x y<0 then x::y::l else y::put f x l
end
def vh{α:Type} [DecidableEq α]:α->List α->List α
 |_,[]=>[]
 |p,x::t=>if x=p then vh x t else x::vh x t
def Io [DecidableEq α](p:α):vh p []=[]:=by unfold vh;rfl
def Fc [DecidableEq α]{p x:α}(h:x=p)(t:List α):vh p (x::t)=vh x t:=by
 conv=>lhs;unfold vh
 rw [bK h]
def LI [DecidableEq α]{p x:α}(h: ¬x=p)(t:List α):vh p (x::t)=x::vh x t:=by
 conv=>lhs;unfold vh
 rw [bG h]
def LH{α:Type} [DecidableEq α]:List α->List α
 |[]=>[]
 |x::t=>x::vh x t
def Dh{α:Type} [DecidableEq α]: ∀(p:α) (l:List α) (z:α),z∈vh p l->z∈l
 |p,x::t,z,h=>by
  unfold vh at h
  split at h
  ·exact lH _ (Dh x t z h)
  ·rcases lK.1 h with rfl|h
   ·exact ln ..
   ·exact lH _ (Dh x t z h)
def CK{α:Type} [DecidableEq α]: ∀(p:α) (l:List α) (z:α),z∈l->z=p\/z∈vh p l
 |p,x::t,z,h=>by
  unfold vh
  by_cases D:x=p
  ·rw [bK D]
   rcases lK.1 h with rfl|h
   ·exact .inl D
   ·rcases CK x t z h with h|h
    ·exact .inl (h.trans D)
    ·exact .inr h
  ·rw [bG D]
   rcases lK.1 h with rfl|h
   ·exact .inr (ln ..)
   ·rcases CK x t z h with h|h
    ·exact .inr (by rw [h];exact ln ..)
    ·exact .inr (lH _ h)
def MO [DecidableEq α](l:List α)(z:α):z∈LH l↔z∈l:=by
 cases l with
 |nil=>exact qu
 |cons x t=>
  constructor
  ·intro h
   rcases lK.1 h with rfl|h
   ·exact ln ..
   ·exact lH _ (Dh x t z h)
  ·intro h
   rcases lK.1 h with rfl|h
   ·exact ln ..
   ·rcases CK x t z h with rfl|h
    ·exact ln ..
    ·exact lH _ h

structure Small(l:List Row):Prop where
 len:l.length<=8000
 row: ∀r∈l,r.length<=1000
def dS{n:Int}(h: -9223372036854775808<=n)(V:n<=9223372036854775807):IntKind.i64.wrap n=n:=by rw [BU];omega
def qh{xs:List α}{l m:Nat}(h:l<=m)(V:m<=xs.length):cE xs (l:Int) (m:Int)=some ((xs.take m).drop l):=by
 unfold cE
 rw [bK (by omega)]
 simp

def rZ(n:Nat):Bool:=decide (97<=n)&&decide (n<=122)
def Af(n:Nat):Bool:=decide (48<=n)&&decide (n<=57)
def UJ(n:Nat):Bool:=rZ n||Af n||n==95
def Tv(b:UInt8):Bool:=UJ b.toNat
def yr(n:Nat):sH (n:Int)=some (rZ n):=by
 unfold sH rZ
 congr 2<;>(rw [zg];omega)
def F5(n:Nat):vI (n:Int)=some (Af n):=by
 unfold vI Af
 congr 2<;>(rw [zg];omega)
def Jy{n:Nat}(h:UJ n=true):n<128:=by
 unfold UJ rZ Af at h
 simp only [ze,gM,il,sv]at h
 omega
def UB(n:Nat):((n:Int) !=(95:Int))= !(n==95):=by
 rw [bne,wJ]
 simp only [zj,Ek,ne_eq]
 omega
variable{i:Nat}
def Px{s:cB}(h:i<s.length)(H:(s[i]).toNat<128):qc s i=((s[i]).toNat,1):=
 decode_ascii ⟨s.toArray⟩ i (show i<(ByteArray.mk s.toArray).size from h) H
def No{s:cB}(h:i<s.length)(H: ¬(s[i]).toNat<128):128<=(qc s i).1:=
 (decode_high ⟨s.toArray⟩ i (show i<(ByteArray.mk s.toArray).size from h) (show 128<=(s[i]).toNat by omega)).1
def Hs(s:cB): ∀(f i:Nat),s.length<i+f->m8 (qA s f i)=some ((s.drop i).all Tv)
 |0,i,h=>by
  rw [su (by omega)];rfl
 |f+1,i,h=>by
  unfold qA
  by_cases hi:i<s.length
  ·rw [bK hi]
   unfold m8
   simp only [F5,yr,aX,UB]
   rw [wN hi,uj]
   by_cases H:(s[i]).toNat<128
   ·rw [Px hi H]
    simp only []
    have ih:=Hs s f (i+1) (by omega)
    have e:Tv s[i]=(rZ (s[i]).toNat||Af (s[i]).toNat||(s[i]).toNat==95):=rfl
    rw [e]
    cases A:Af (s[i]).toNat<;>cases V:rZ (s[i]).toNat<;>cases h3:((s[i]).toNat==95)<;>simp [ih]
   ·have hh:=No hi H
    have e:Tv s[i]=false:=by
     cases ho:Tv s[i]with
     |false=>rfl
     |true=>exact absurd (Jy ho) H
    have e2:UJ (qc s i).1=false:=by
     cases ho:UJ (qc s i).1 with
     |false=>rfl
     |true=>have:=Jy ho;omega
    rw [e,Bool.false_and]
    unfold UJ at e2
    simp only [GW]at e2
    obtain⟨⟨V,A⟩,h3⟩:=e2
    simp [A,V,h3]
  ·rw [bG hi,su (by omega)];rfl
def KH(s:cB):Bool:=Vq.any fun w=>w==s
def IJ(v:cB): ∀(l:List cB) (i:Nat),∃j:Int,cX v l i=some j/\decide (0<=j)=l.any fun w=>w==v
 |[],i=>⟨-1,rfl,rfl⟩
 |e::l,i=>by
  unfold cX
  by_cases h:v=e
  ·subst h
   exact⟨(i:Int),by simp,by simp⟩
  ·obtain⟨j,A,V⟩:=IJ v l (i+1)
   exact⟨j,by simp [h,A],by simp [V,Ne.symm h]⟩
def wA(s:cB):tf s=some (KH s):=by
 unfold tf eo ed
 obtain⟨j,A,V⟩:=IJ s Vq 0
 rw [A]
 simp only [aX,V]
 rfl
def UH(b:UInt8):UInt8:=UInt8.ofNat (if rZ b.toNat then b.toNat-32 else b.toNat)
def L7: ∀b:UInt8,UH b=Lib.upperB b:=by
 intro b
 have key: ∀i:Fin 256,UH (UInt8.ofNat i.val)=Lib.upperB (UInt8.ofNat i.val):=by decide+kernel
 have:=key ⟨b.toNat,b.toNat_lt⟩
 simpa using this
def Ee(s:cB)(hs:s.length<=1000)(ha: ∀b∈s,Tv b=true):iQ s=some (s.map UH):=by
 unfold iQ
 rw [bK (by omega),Lib.toUpperD_ascii s (fun b H=>Jy (ha b H))]
 unfold Lib.toUpperA
 rw [show UH=Lib.upperB from funext L7]
def Sx:cB->Bool
 |[]=>false
 |b::_=>rZ b.toNat
def lO(s:cB):Bool:=(decide (1<=s.length)&&decide (s.length<=16)&&Sx s)&&(!KH (s.map UH)&&s.all Tv)
def MU{b:UInt8}{t:cB}:CS (b::t) (0:Int)=some (b.toNat:Int):=by unfold CS;rfl
def jo(s:cB):jC s=some (lO s):=by
 unfold jC lO
 cases s with
 |nil=>rfl
 |cons b t=>
  by_cases hl:(b::t).length<=16
  ·rw [bK (by rw [show((b::t)==([]:cB))=false from rfl,wI,zj,qt];omega),MU,aX]
   have H:=b.toNat_lt
   rw [show IntKind.i32.wrap (b.toNat:Int)=(b.toNat:Int) by rw [IntKind.wrap_i32];omega,yr,aX,aX]
   have e0:(decide (1<=(b::t).length)&&decide ((b::t).length<=16)&&Sx (b::t))=rZ b.toNat:=by
    rw [xK (show 1<=(b::t).length by simp),xK hl];rfl
   rw [e0]
   cases hsm:rZ b.toNat with
   |false=>rfl
   |true=>
    have hr:=Hs (b::t) ((b::t).length+1) 0 (by omega)
    rw [sq]at hr
    have hT:iQ (b::t)=some (Lib.toUpperD (b::t)):=by unfold iQ;rw [bK (by omega)]
    simp only [pi,xJ,gO]
    cases ha:(b::t).all Tv with
    |true=>
     rw [Ee (b::t) (by omega) (fun c hc=>lY.1 ha c hc),aX,wA,aX,aX]
     unfold Ht
     rw [hr,ha]
     cases KH ((b::t).map UH)<;>rfl
    |false=>
     rw [hT,aX,wA,aX,aX]
     unfold Ht
     rw [hr,ha]
     cases KH (Lib.toUpperD (b::t))<;>simp
  ·rw [bG (by rw [show((b::t)==([]:cB))=false from rfl,wI,zj,qt,Classical.not_not];omega)]
   rw [A3 hl]
   simp

def yw(k:Int):Bool:=k==1||k==2||k==3
def Bo(k:Int): ∃r,qd k=some r/\(r==([]:cB))= !yw k:=by
 have g0:fE TE ((0:Nat):Int)=some ⟨[98,111,111,108],1⟩:=rfl
 have g1:fE TE ((0+1:Nat):Int)=some ⟨[105,110,116],2⟩:=rfl
 have g2:fE TE ((0+1+1:Nat):Int)=some ⟨[116,101,120,116],3⟩:=rfl
 unfold qd
 by_cases A:k=1
 ·subst A;exact⟨_,by simp only [iW,g0,aX];rfl,rfl⟩
 by_cases V:k=2
 ·subst V;exact⟨_,by simp only [iW,g0,g1,aX];rfl,rfl⟩
 by_cases h3:k=3
 ·subst h3;exact⟨_,by simp only [iW,g0,g1,g2,aX];rfl,rfl⟩
 have n1:((1:Int)==k)=false:=by simpa using Ne.symm A
 have n2:((2:Int)==k)=false:=by simpa using Ne.symm V
 have n3:((3:Int)==k)=false:=by simpa using Ne.symm h3
 refine⟨[],?_,?_⟩
 ·simp only [iW,g0,g1,g2,aX,n1,n2,n3];rfl
 ·simp [yw,A,V,h3]
def CV(p:List bp)(x:bp):Bool:=p.any fun y=>y.Name==x.Name
def Nq:List bp->List bp->Bool
 |_,[]=>true
 |p,x::t=>(!CV p x&&lO x.Name)&&Nq (p++[x]) t
def Is:List bp->List bp->Bool
 |_,[]=>true
 |p,x::t=>(lO x.Name&&yw x.Kind&& !CV p x)&&Is (p++[x]) t
def GA: ∀(t p:List bp),Is p t=(Nq p t&&t.all fun x=>yw x.Kind)
 |[],_=>rfl
 |x::t,p=>by
  unfold Is Nq
  rw [GA t (p++[x]),uj]
  cases CV p x<;>cases lO x.Name<;>cases yw x.Kind<;>simp
def OW(x:bp)(t:List bp): ∀(p:List bp) (i:Nat),∃k:Nat,cq (eu eA x.Name) (p++x::t) i=some ((i+k:Nat):Int)/\(k !=p.length)=CV p x
 |[],i=>⟨0,by unfold cq;simp [eu,eA],rfl⟩
 |y::p,i=>by
  rw [xN]
  unfold cq
  rw [show eu eA x.Name y=some (y.Name==x.Name)from rfl,aX]
  cases h:(y.Name==x.Name)with
  |true=>exact⟨0,rfl,by unfold CV;rw [wm,h];rfl⟩
  |false=>
   obtain⟨k,A,V⟩:=OW x t p (i+1)
   refine⟨k+1,by rw [bG (by simp),A];congr 2;omega,?_⟩
   unfold CV at V ⊢
   rw [wm,h,wI,<-V,gq]
   rw [wJ];simp
def Vy(x:bp)(p t:List bp): ∃k:Int,iI (p++x::t) eA x.Name=some (k,true)/\(k !=(p.length:Int))=CV p x:=by
 obtain⟨k,A,V⟩:=OW x t p 0
 refine⟨(k:Int),?_,?_⟩
 ·unfold iI fc
  rw [A,aX,ph]
  have e1:max (k:Int) 0=(k:Int):=by omega
  have e2:decide ((0:Int)<=(k:Int))=true:=xK (by omega)
  rw [e1,e2]
 ·rw [<-V,wJ];simp;omega
def Sq: ∀(t p:List bp),fh (p++t) eA t p.length=some (Nq p t)
 |[],p=>rfl
 |x::t,p=>by
  unfold fh
  obtain⟨k,A,V⟩:=Vy x p t
  rw [show eA x=some x.Name from rfl,aX,A,aX]
  simp only [V,aX,jo]
  unfold Nq
  have ih:=Sq t (p++[x])
  rw [gQ,Fv,mY,wb]at ih
  rw [ih]
  cases CV p x<;>cases lO x.Name<;>simp
def F0(l:List bp):kF l eA=some (Nq [] l):=Sq l []
def yv(t:bH): ∀(l:List bp) (ok:Bool),fQ t l ok=eP t t.Keys 0 (ok&&l.all fun x=>yw x.Kind)
 |[],ok=>by unfold fQ;simp
 |x::l,ok=>by
  unfold fQ
  obtain⟨r,A,V⟩:=Bo x.Kind
  cases ok with
  |false=>
   rw [bG (by simp),aX,yv t l];simp
  |true=>
   rw [bK rfl,A,aX,aX,yv t l,V,uj];simp
def KQ(n:Nat):Option Int->List Int->Bool
 |_,[]=>true
 |o,k::t=>(decide (0<=k)&&decide (k<(n:Int))&&(o.all fun j=>decide (j<k)))&&KQ n (some k) t
def Se(n:Nat)(o:Option Int)(k:Int)(t:List Int):KQ n o (k::t)=((decide (0<=k)&&decide (k<(n:Int))&&(o.all fun j=>decide (j<k)))&&KQ n (some k) t):=rfl
def KW(l:List Int):Nat->Option Int
 |0=>none
 |i+1=>l[i]?
def Hz{l:List Int}(h:i<l.length):KW l (i+1)=some l[i]:=kQ h
def OX{l:List Int}(h:i+1<=l.length)(hl:l.length<=100000):fE l (IntKind.i64.wrap (((i+1:Nat):Int)-1))=some l[i]:=by
 rw [show IntKind.i64.wrap (((i+1:Nat):Int)-1)=(i:Int) by rw [BU];omega,mK,kQ (by omega)]
def Lg(t:bH)(hl:t.Keys.length<=100000): ∀(n i:Nat) (ok:Bool),t.Keys.length-i=n->i<=t.Keys.length->eP t (t.Keys.drop i) i ok=some (if ok&&KQ t.Columns.length (KW t.Keys i) (t.Keys.drop i)then 0 else 211)
 |0,i,ok,h,hi=>by
  rw [su (by omega)]
  unfold eP KQ
  cases ok<;>rfl
 |n+1,i,ok,h,hi=>by
  have hlt:i<t.Keys.length:=by omega
  rw [wN hlt,Se]
  unfold eP
  have ih:=Lg t hl n (i+1)
  rw [Hz hlt]at ih
  cases ok with
  |false=>
   simp only [Bool.false_and,j0,iB,aX]
   rw [ih false (by omega) (by omega)];simp
  |true=>
   simp only [ut]
   by_cases A:(0:Int)<=t.Keys[i]
   ·by_cases V:t.Keys[i]<(t.Columns.length:Int)
    ·rw [bK (by rw [xK A,xK V];rfl),xK A,xK V]
     cases i with
     |zero=>
      rw [bG (by simp),aX,aX,ih true (by omega) (by omega)]
      simp [KW]
     |succ j=>
      rw [bK (by simp;omega),OX (by omega) hl,aX,aX,aX,ih _ (by omega) (by omega),Hz (by omega)]
      simp [Option.all]
    ·rw [bG (by rw [A3 V];simp),aX,ih false (by omega) (by omega),A3 V];simp
   ·rw [bG (by rw [A3 A];simp),aX,ih false (by omega) (by omega),A3 A];simp
def yc(t:bH):Bool:=(lO t.Name&&decide (1<=t.Columns.length)&&decide (t.Columns.length<=4))&&(Is [] t.Columns&&KQ t.Columns.length none t.Keys)
def Ef(t:bH)(hl:t.Keys.length<=100000):lh t=some (if yc t then 0 else 211):=by
 unfold lh yc
 rw [jo,aX,GA]
 have key:=Lg t hl t.Keys.length 0
 rw [sq]at key
 have e1:decide ((1:Int)<=(t.Columns.length:Int))=decide (1<=t.Columns.length):=by rw [zg];omega
 have e2:decide ((t.Columns.length:Int)<=(4:Int))=decide (t.Columns.length<=4):=by rw [zg];omega
 rw [e1,e2]
 cases h:(lO t.Name&&decide (1<=t.Columns.length)&&decide (t.Columns.length<=4))with
 |false=>
  rw [bG (by simp),aX,yv,key _ rfl (jM _)];simp
 |true=>
  rw [bK rfl,F0,aX,aX,yv,key _ rfl (jM _)]
  simp [KW]
def H6(p:List bH)(x:bH):Bool:=p.any fun y=>y.Name==x.Name
def I5:List bH->List bH->Bool
 |_,[]=>true
 |p,x::t=>(!H6 p x&&lO x.Name)&&I5 (p++[x]) t
def Qt:List bH->List bH->Bool
 |_,[]=>true
 |p,x::t=>(yc x&& !H6 p x)&&Qt (p++[x]) t
def N3{t:bH}(h:yc t=true):lO t.Name=true:=by
 unfold yc at h
 simp only [gM]at h
 exact h.1.1.1
def FJ: ∀(t p:List bH),Qt p t=(t.all yc&&I5 p t)
 |[],_=>rfl
 |x::t,p=>by
  unfold Qt I5
  rw [FJ t (p++[x]),uj]
  cases h:yc x with
  |false=>simp
  |true=>
   rw [N3 h]
   cases H6 p x<;>simp
def OV(x:bH)(t:List bH): ∀(p:List bH) (i:Nat),∃k:Nat,bk (dr dz x.Name) (p++x::t) i=some ((i+k:Nat):Int)/\(k !=p.length)=H6 p x
 |[],i=>⟨0,by unfold bk;simp [dr,dz],rfl⟩
 |y::p,i=>by
  rw [xN]
  unfold bk
  rw [show dr dz x.Name y=some (y.Name==x.Name)from rfl,aX]
  cases h:(y.Name==x.Name)with
  |true=>exact⟨0,rfl,by unfold H6;rw [wm,h];rfl⟩
  |false=>
   obtain⟨k,A,V⟩:=OV x t p (i+1)
   refine⟨k+1,by rw [bG (by simp),A];congr 2;omega,?_⟩
   unfold H6 at V ⊢
   rw [wm,h,wI,<-V,gq]
   rw [wJ];simp
def Vx(x:bH)(p t:List bH): ∃k:Int,fz (p++x::t) dz x.Name=some (k,true)/\(k !=(p.length:Int))=H6 p x:=by
 obtain⟨k,A,V⟩:=OV x t p 0
 refine⟨(k:Int),?_,?_⟩
 ·unfold fz cG
  rw [A,aX,ph]
  have e1:max (k:Int) 0=(k:Int):=by omega
  have e2:decide ((0:Int)<=(k:Int))=true:=xK (by omega)
  rw [e1,e2]
 ·rw [<-V,wJ];simp;omega
def Sp: ∀(t p:List bH),fG (p++t) dz t p.length=some (I5 p t)
 |[],p=>rfl
 |x::t,p=>by
  unfold fG
  obtain⟨k,A,V⟩:=Vx x p t
  rw [show dz x=some x.Name from rfl,aX,A,aX]
  simp only [V,aX,jo]
  unfold I5
  have ih:=Sp t (p++[x])
  rw [gQ,Fv,mY,wb]at ih
  rw [ih]
  cases H6 p x<;>cases lO x.Name<;>simp
def Am(c:au):Prop:= ∀t∈c.Tables,t.Keys.length<=100000
def yT: ∀(l:List bH) (i:Nat),(∀t∈l,t.Keys.length<=100000)-> ∃j:Int,bk jP l i=some j/\decide (0<=j)= !l.all yc
 |[],i,_=>⟨-1,rfl,rfl⟩
 |x::l,i,h=>by
  unfold bk
  rw [show jP x=some (!yc x) by unfold jP;rw [Ef x (h x (ln ..)),aX];cases yc x<;>rfl,aX,uj]
  cases D:yc x with
  |false=>exact⟨(i:Int),rfl,by simp⟩
  |true=>
   obtain⟨j,A,V⟩:=yT l (i+1) fun t M=>h t (lH _ M)
   exact⟨j,by simpa using A,by simpa using V⟩
def Ea(c:au):Bool:=decide (c.Tables.length<=4)&&Qt [] c.Tables
def sN{c:au}(h:Am c):na c=some (if Ea c then 0 else 210):=by
 unfold na Ea
 obtain⟨j,A,V⟩:=yT c.Tables 0 h
 have h3:lg c.Tables dz=some (I5 [] c.Tables):=Sp c.Tables []
 rw [FJ]
 by_cases hl:c.Tables.length<=4
 ·rw [A3 (show¬(4:Int)<(c.Tables.length:Int) by omega),xK hl]
  unfold eV cG
  rw [A,h3]
  simp only [xJ,gO,aX,V]
  cases c.Tables.all yc<;>cases I5 [] c.Tables<;>rfl
 ·rw [xK (show(4:Int)<(c.Tables.length:Int) by omega),A3 hl];rfl
end Go.Proofs.YthbdkceckjihgaaGreatDoor

