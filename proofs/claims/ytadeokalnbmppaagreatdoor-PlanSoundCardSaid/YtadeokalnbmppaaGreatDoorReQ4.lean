import Derived.Test.YtadeokalnbmppaaGreatDoorReQ1
import Derived.Laws.RangeAny
import Derived.Shelf.Strings.CaseAny
set_option linter.all false
namespace Go.Proofs.YtadeokalnbmppaaGreatDoor
open Go IntKind
def xD(n:Nat):Bool:=decide (97<=n)&&decide (n<=122)
def EL(n:Nat):Bool:=decide (48<=n)&&decide (n<=57)
def okN(n:Nat):Bool:=xD n||EL n||n==95
def okb(b:UInt8):Bool:=okN b.toNat
def Dm(n:Nat):yi (n:Int)=some (xD n):=by
 unfold yi xD;congr 2<;>(rw [BI];omega)
def KV(n:Nat):Bd (n:Int)=some (EL n):=by
 unfold Bd EL;congr 2<;>(rw [BI];omega)
def PF{n:Nat}(h:okN n=true):n<128:=by
 unfold okN xD EL at h;simp only [zR,jJ,vk,vD]at h;omega
def acg(n:Nat):((n:Int) !=(95:Int))= !(n==95):=by
 rw [bne,uQ];simp only [FS,LR,ne_eq];omega
variable{i:Nat}
def Wl{s:ru}(h:i<s.length)(K:(s[i]).toNat<128):vV s i=((s[i]).toNat,1):=
 decode_ascii ⟨s.toArray⟩ i (show i<(ByteArray.mk s.toArray).size from h) K
def TW{s:ru}(h:i<s.length)(K: ¬(s[i]).toNat<128):128<=(vV s i).1:=
 (decode_high ⟨s.toArray⟩ i (show i<(ByteArray.mk s.toArray).size from h) (show 128<=(s[i]).toNat by omega)).1
def Mv(s:ru): ∀(f i:Nat),s.length<i+f->rE (wo s f i)=some ((s.drop i).all okb)
 |0,i,h=>by
  rw [Ec (by omega)];rfl
 |f+1,i,h=>by
  unfold wo;by_cases hi:i<s.length
  ·rw [bq hi];unfold rE;simp only [KV,Dm,bh,acg];rw [yK hi,yF];by_cases K:(s[i]).toNat<128
   ·rw [Wl hi K];simp only [];have ih:=Mv s f (i+1) (by omega);have e:okb s[i]=(xD (s[i]).toNat||EL (s[i]).toNat||(s[i]).toNat==95):=rfl;rw [e];cases D:EL (s[i]).toNat<;>cases V:xD (s[i]).toNat<;>cases Z:((s[i]).toNat==95)<;>simp [ih]
   ·have hh:=TW hi K;have e:okb s[i]=false:=by
     cases ho:okb s[i]with
     |false=>rfl
     |true=>exact absurd (PF ho) K
    have e2:okN (vV s i).1=false:=by
     cases ho:okN (vV s i).1 with
     |false=>rfl
     |true=>have:=PF ho;omega
    rw [e,E0];unfold okN at e2;simp only [QN]at e2;obtain⟨⟨V,D⟩,Z⟩:=e2;simp [D,V,Z]
  ·rw [aZ hi,Ec (by omega)];rfl
def QW(s:ru):Bool:=gv1.any fun w=>w==s
def Oq(v:ru): ∀(l:List ru) (i:Nat),∃j:Int,gK v l i=some j/\decide (0<=j)=l.any fun w=>w==v
 |[],i=>⟨-1,rfl,rfl⟩
 |e::l,i=>by
  unfold gK;by_cases h:v=e
  ·subst h;exact⟨(i:Int),by simp,by simp⟩
  ·obtain⟨j,D,V⟩:=Oq v l (i+1);exact⟨j,by simp [h,D],by simp [V,Ne.symm h]⟩
def BV(s:ru):zc s=some (QW s):=by
 unfold zc lV nu;obtain⟨j,D,V⟩:=Oq s gv1 0;rw [D];simp only [bh,V];rfl
def UC(b:UInt8):UInt8:=UInt8.ofNat (if xD b.toNat then b.toNat-32 else b.toNat)
def SB: ∀b:UInt8,UC b=Lib.upperB b:=by
 intro b;have key: ∀i:Fin 256,UC (UInt8.ofNat i.val)=Lib.upperB (UInt8.ofNat i.val):=by decide+kernel
 have:=key ⟨b.toNat,b.toNat_lt⟩;simpa using this
def IK(s:ru)(hs:s.length<=1000)(ha: ∀b∈s,okb b=true):mG s=some (s.map UC):=by
 unfold mG;rw [bq (by omega),Lib.toUpperD_ascii s (fun b K=>PF (ha b K))];unfold Lib.toUpperA;rw [show UC=Lib.upperB from funext SB]
def Zt:ru->Bool
 |[]=>false
 |b::_=>xD b.toNat
def Au(s:ru):Bool:=(decide (1<=s.length)&&decide (s.length<=16)&&Zt s)&&(!QW (s.map UC)&&s.all okb)
def TB{b:UInt8}{t:ru}:VH (b::t) (0:Int)=some (b.toNat:Int):=by unfold VH;rfl
def xK(s:ru):ut s=some (Au s):=by
 unfold ut Au
 cases s with
 |nil=>rfl
 |cons b t=>
  by_cases hl:(b::t).length<=16
  ·rw [bq (by rw [show((b::t)==([]:ru))=false from rfl,yG,FS,GK];omega),TB,bh];have K:=b.toNat_lt;rw [show i32.wrap (b.toNat:Int)=(b.toNat:Int) by rw [wrap_i32];omega,Dm,bh,bh];have e0:(decide (1<=(b::t).length)&&decide ((b::t).length<=16)&&Zt (b::t))=xD b.toNat:=by
    rw [zM (show 1<=(b::t).length by simp),zM hl];rfl
   rw [e0]
   cases hsm:xD b.toNat with
   |false=>rfl
   |true=>
    have hr:=Mv (b::t) ((b::t).length+1) 0 (by omega);rw [vj]at hr;have hT:mG (b::t)=some (Lib.toUpperD (b::t)):=by unfold mG;rw [bq (by omega)]
    simp only [s6,xV,mF]
    cases ha:(b::t).all okb with
    |true=>
     rw [IK (b::t) (by omega) (fun c hc=>o0.1 ha c hc),bh,BV,bh,bh];unfold Mw;rw [hr,ha];cases QW ((b::t).map UC)<;>rfl
    |false=>
     rw [hT,bh,BV,bh,bh];unfold Mw;rw [hr,ha];cases QW (Lib.toUpperD (b::t))<;>simp
  ·rw [aZ (by rw [show((b::t)==([]:ru))=false from rfl,yG,FS,GK,Classical.not_not];omega)];rw [zN hl];simp
def Jy(k:Int):Bool:=k==1||k==2||k==3
def Gg(k:Int): ∃r,vX k=some r/\(r==([]:ru))= !Jy k:=by
 have g0:dm gv0 ((0:Nat):Int)=some ⟨[98,111,111,108],1⟩:=rfl;have g1:dm gv0 ((0+1:Nat):Int)=some ⟨[105,110,116],2⟩:=rfl;have g2:dm gv0 ((0+1+1:Nat):Int)=some ⟨[116,101,120,116],3⟩:=rfl;unfold vX;by_cases D:k=1
 ·subst D;exact⟨_,by simp only [mM,g0,bh];rfl,rfl⟩
 by_cases V:k=2
 ·subst V;exact⟨_,by simp only [mM,g0,g1,bh];rfl,rfl⟩
 by_cases Z:k=3
 ·subst Z;exact⟨_,by simp only [mM,g0,g1,g2,bh];rfl,rfl⟩
 have n1:((1:Int)==k)=false:=by simpa using Ne.symm D
 have n2:((2:Int)==k)=false:=by simpa using Ne.symm V
 have n3:((3:Int)==k)=false:=by simpa using Ne.symm Z
 refine⟨[],?_,?_⟩
 ·simp only [mM,g0,g1,g2,bh,n1,n2,n3];rfl
 ·simp [Jy,D,V,Z]
def Ns(p:List cc)(x:cc):Bool:=p.any fun y=>y.Name==x.Name
def TX:List cc->List cc->Bool
 |_,[]=>true
 |p,x::t=>(!Ns p x&&Au x.Name)&&TX (p++[x]) t
def YQ:List cc->List cc->Bool
 |_,[]=>true
 |p,x::t=>(Au x.Name&&Jy x.Kind&& !Ns p x)&&YQ (p++[x]) t
def RY: ∀(t p:List cc),YQ p t=(TX p t&&t.all fun x=>Jy x.Kind)
 |[],_=>rfl
 |x::t,p=>by
  unfold YQ TX;rw [RY t (p++[x]),yF];cases Ns p x<;>cases Au x.Name<;>cases Jy x.Kind<;>simp
def VD(x:cc)(t:List cc): ∀(p:List cc) (i:Nat),∃k:Nat,dv (gP gZ x.Name) (p++x::t) i=some ((i+k:Nat):Int)/\(k !=p.length)=Ns p x
 |[],i=>⟨0,by unfold dv;simp [gP,gZ],rfl⟩
 |y::p,i=>by
  rw [FR];unfold dv;rw [show gP gZ x.Name y=some (y.Name==x.Name)from rfl,bh]
  cases h:(y.Name==x.Name)with
  |true=>exact⟨0,rfl,by unfold Ns;rw [zD,h];rfl⟩
  |false=>
   obtain⟨k,D,V⟩:=VD x t p (i+1);refine⟨k+1,by rw [aZ (by simp),D];congr 2;omega,?_⟩;unfold Ns at V ⊢;rw [zD,h,yG,<-V,jr];rw [uQ];simp
def ac4(x:cc)(p t:List cc): ∃k:Int,mB (p++x::t) gZ x.Name=some (k,true)/\(k !=(p.length:Int))=Ns p x:=by
 obtain⟨k,D,V⟩:=VD x t p 0;refine⟨(k:Int),?_,?_⟩
 ·unfold mB iP;rw [D,bh,oZ];have e1:max (k:Int) 0=(k:Int):=by omega
  have e2:decide ((0:Int)<=(k:Int))=true:=zM (by omega);rw [e1,e2]
 ·rw [<-V,uQ];simp;omega
def Zk: ∀(t p:List cc),jf (p++t) gZ t p.length=some (TX p t)
 |[],p=>rfl
 |x::t,p=>by
  unfold jf;obtain⟨k,D,V⟩:=ac4 x p t;rw [show gZ x=some x.Name from rfl,bh,D,bh];simp only [V,bh,xK];unfold TX;have ih:=Zk t (p++[x]);rw [gJ,QQ,jY,Eb]at ih;rw [ih];cases Ns p x<;>cases Au x.Name<;>simp
def KL(l:List cc):pt l gZ=some (TX [] l):=Zk l []
def Dp(t:de): ∀(l:List cc) (ok:Bool),jI t l ok=iB t t.I' 0 (ok&&l.all fun x=>Jy x.Kind)
 |[],ok=>by unfold jI;simp
 |x::l,ok=>by
  unfold jI;obtain⟨r,D,V⟩:=Gg x.Kind
  cases ok with
  |false=>
   rw [aZ (by simp),bh,Dp t l];simp
  |true=>
   rw [bq rfl,D,bh,bh,Dp t l,V,yF];simp
def KQ(n:Nat):Option Int->List Int->Bool
 |_,[]=>true
 |o,k::t=>(decide (0<=k)&&decide (k<(n:Int))&&(o.all fun j=>decide (j<k)))&&KQ n (some k) t
def Sm(n:Nat)(o:Option Int)(k:Int)(t:List Int):KQ n o (k::t)=((decide (0<=k)&&decide (k<(n:Int))&&(o.all fun j=>decide (j<k)))&&KQ n (some k) t):=rfl
def Ri(l:List Int):Nat->Option Int
 |0=>none
 |i+1=>l[i]?
def MD{l:List Int}(h:i<l.length):Ri l (i+1)=some l[i]:=qV h
def VF{l:List Int}(h:i+1<=l.length)(hl:l.length<=100000):dm l (i64.wrap (((i+1:Nat):Int)-1))=some l[i]:=by
 rw [show i64.wrap (((i+1:Nat):Int)-1)=(i:Int) by rw [wrap_i64];omega,bR,qV (by omega)]
def Rz(t:de)(hl:t.I'.length<=100000): ∀(n i:Nat) (ok:Bool),t.I'.length-i=n->i<=t.I'.length->iB t (t.I'.drop i) i ok=some (if ok&&KQ t.b_.length (Ri t.I' i) (t.I'.drop i)then 0 else 211)
 |0,i,ok,h,hi=>by
  rw [Ec (by omega)];unfold iB KQ;cases ok<;>rfl
 |n+1,i,ok,h,hi=>by
  have o_:i<t.I'.length:=by omega
  rw [yK o_,Sm];unfold iB;have ih:=Rz t hl n (i+1);rw [MD o_]at ih
  cases ok with
  |false=>
   simp only [E0,qD,lS,bh];rw [ih false (by omega) (by omega)];simp
  |true=>
   simp only [sX];by_cases D:(0:Int)<=t.I'[i]
   ·by_cases V:t.I'[i]<(t.b_.length:Int)
    ·rw [bq (by rw [zM D,zM V];rfl),zM D,zM V]
     cases i with
     |zero=>
      rw [aZ (by simp),bh,bh,ih true (by omega) (by omega)];simp [Ri]
     |succ j=>
      rw [bq (by simp;omega),VF (by omega) hl,bh,bh,bh,ih _ (by omega) (by omega),MD (by omega)];simp [Option.all]
    ·rw [aZ (by rw [zN V];simp),bh,ih false (by omega) (by omega),zN V];simp
   ·rw [aZ (by rw [zN D];simp),bh,ih false (by omega) (by omega),zN D];simp
def Eh(t:de):Bool:=(Au t.Name&&decide (1<=t.b_.length)&&decide (t.b_.length<=4))&&(YQ [] t.b_&&KQ t.b_.length none t.I')
def IL(t:de)(hl:t.I'.length<=100000):pW t=some (if Eh t then 0 else 211):=by
 unfold pW Eh;rw [xK,bh,RY];have key:=Rz t hl t.I'.length 0;rw [vj]at key;have e1:decide ((1:Int)<=(t.b_.length:Int))=decide (1<=t.b_.length):=by rw [BI];omega
 have e2:decide ((t.b_.length:Int)<=(4:Int))=decide (t.b_.length<=4):=by rw [BI];omega
 rw [e1,e2]
 cases h:(Au t.Name&&decide (1<=t.b_.length)&&decide (t.b_.length<=4))with
 |false=>
  rw [aZ (by simp),bh,Dp,key _ rfl (kY _)];simp
 |true=>
  rw [bq rfl,KL,bh,bh,Dp,key _ rfl (kY _)];simp [Ri]
def Nr(p:List de)(x:de):Bool:=p.any fun y=>y.Name==x.Name
def OY:List de->List de->Bool
 |_,[]=>true
 |p,x::t=>(!Nr p x&&Au x.Name)&&OY (p++[x]) t
def Xf:List de->List de->Bool
 |_,[]=>true
 |p,x::t=>(Eh x&& !Nr p x)&&Xf (p++[x]) t
def UN{t:de}(h:Eh t=true):Au t.Name=true:=by
 unfold Eh at h;simp only [jJ]at h;exact h.1.1.1
def Km: ∀(t p:List de),Xf p t=(t.all Eh&&OY p t)
 |[],_=>rfl
 |x::t,p=>by
  unfold Xf OY;rw [Km t (p++[x]),yF]
  cases h:Eh x with
  |false=>simp
  |true=>
   rw [UN h];cases Nr p x<;>simp
def VC(x:de)(t:List de): ∀(p:List de) (i:Nat),∃k:Nat,cB (iq iH x.Name) (p++x::t) i=some ((i+k:Nat):Int)/\(k !=p.length)=Nr p x
 |[],i=>⟨0,by unfold cB;simp [iq,iH],rfl⟩
 |y::p,i=>by
  rw [FR];unfold cB;rw [show iq iH x.Name y=some (y.Name==x.Name)from rfl,bh]
  cases h:(y.Name==x.Name)with
  |true=>exact⟨0,rfl,by unfold Nr;rw [zD,h];rfl⟩
  |false=>
   obtain⟨k,D,V⟩:=VC x t p (i+1);refine⟨k+1,by rw [aZ (by simp),D];congr 2;omega,?_⟩;unfold Nr at V ⊢;rw [zD,h,yG,<-V,jr];rw [uQ];simp
def ac3(x:de)(p t:List de): ∃k:Int,mY (p++x::t) iH x.Name=some (k,true)/\(k !=(p.length:Int))=Nr p x:=by
 obtain⟨k,D,V⟩:=VC x t p 0;refine⟨(k:Int),?_,?_⟩
 ·unfold mY eK;rw [D,bh,oZ];have e1:max (k:Int) 0=(k:Int):=by omega
  have e2:decide ((0:Int)<=(k:Int))=true:=zM (by omega);rw [e1,e2]
 ·rw [<-V,uQ];simp;omega
def Zj: ∀(t p:List de),jp (p++t) iH t p.length=some (OY p t)
 |[],p=>rfl
 |x::t,p=>by
  unfold jp;obtain⟨k,D,V⟩:=ac3 x p t;rw [show iH x=some x.Name from rfl,bh,D,bh];simp only [V,bh,xK];unfold OY;have ih:=Zj t (p++[x]);rw [gJ,QQ,jY,Eb]at ih;rw [ih];cases Nr p x<;>cases Au x.Name<;>simp
def CB(c:bo):Prop:= ∀t∈c.i_,t.I'.length<=100000
def DE: ∀(l:List de) (i:Nat),(∀t∈l,t.I'.length<=100000)-> ∃j:Int,cB nY l i=some j/\decide (0<=j)= !l.all Eh
 |[],i,_=>⟨-1,rfl,rfl⟩
 |x::l,i,h=>by
  unfold cB;rw [show nY x=some (!Eh x) by unfold nY;rw [IL x (h x (pz ..)),bh];cases Eh x<;>rfl,bh,yF]
  cases I:Eh x with
  |false=>exact⟨(i:Int),rfl,by simp⟩
  |true=>
   obtain⟨j,D,V⟩:=DE l (i+1) fun t Y=>h t (pA _ Y);exact⟨j,by simpa using D,by simpa using V⟩
def NZ(c:bo):Bool:=decide (c.i_.length<=4)&&Xf [] c.i_
def yu{c:bo}(h:CB c):rN c=some (if NZ c then 0 else 210):=by
 unfold rN NZ;obtain⟨j,D,V⟩:=DE c.i_ 0 h;have Z:pV c.i_ iH=some (OY [] c.i_):=Zj c.i_ [];rw [Km];by_cases hl:c.i_.length<=4
 ·rw [zN (show¬(4:Int)<(c.i_.length:Int) by omega),zM hl];unfold iJ eK;rw [D,Z];simp only [xV,mF,bh,V];cases c.i_.all Eh<;>cases OY [] c.i_<;>rfl
 ·rw [zM (show(4:Int)<(c.i_.length:Int) by omega),zN hl];rfl
