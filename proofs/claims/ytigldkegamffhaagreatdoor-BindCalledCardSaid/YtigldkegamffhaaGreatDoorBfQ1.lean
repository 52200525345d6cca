/- de of this claim: K1, K2, K3, K4, Q1, Q2. -/
import Derived.Test.YtigldkegamffhaaGreatDoorBfR12
import Derived.KernelRfl
import Derived.Test.YtigldkegamffhaaGreatDoorBfV4
import Derived.Laws.RangeAny
import Derived.Shelf.Strings.CaseAny
set_option linter.all false
namespace Go.Proofs.YtigldkegamffhaaGreatDoor
open Go

abbrev Row:=List cr
variable{α:Type}
def dz{xs ys:List α}(h:xs.length+ys.length<=68719476736):lr xs ys=some (xs++ys):=bv h
def Bq(v:cr):Bool:=(pY v).getD false
def G0(v:cr):pY v=some (Bq v):=by
 unfold Bq pY
 repeat' split
 all_goals rfl
def Gk(v:cr):u9 v=some (if Bq v then 0 else 120):=by
 obtain⟨k,n,u,s⟩:=v
 unfold Bq pY u9 yy
 simp only [kP,qn,qm,qk]
 by_cases h0:k=0
 ·subst h0;simp
  repeat' split
  all_goals simp_all
 by_cases A:k=1
 ·subst A
  by_cases n0:n=0
  ·subst n0;simp
   repeat' split
   all_goals simp_all
  by_cases n1:n=1
  ·subst n1;simp
   repeat' split
   all_goals simp_all
  simp [n0,n1]
 by_cases V:k=2
 ·subst V;simp
  repeat' split
  all_goals simp_all
 by_cases h3:k=3
 ·subst h3;simp
  repeat' split
  all_goals simp_all
 by_cases h4:k=4
 ·subst h4;simp
  repeat' split
  all_goals simp_all
 simp [h0,A,V,h3,h4]

structure Cmp{α:Type}(f:α->α->Int):Prop where
 rng: ∀x y,f x y= -1\/f x y=0\/f x y=1
 anti: ∀x y,f y x= -f x y
 eq: ∀x y,f x y=0↔x=y
 trans: ∀x y z,f x y<=0->f y z<=0->f x z<=0
def key(v:cr):Int×Int×Int×cj:=(v.Kind,v.N,v.U,v.S)

section
variable{f:α->α->Int}
def ltB(f:α->α->Int)(x y:α):Bool:=decide (f x y<0)
def srt(f:α->α->Int)(l:List α):List α:=X6 (ltB f) l
def put(f:α->α->Int)(x:α):List α->List α
 |[]=>[x]
 |y::l=>if f x y<0 then x::y::l else y::put f x l
end
def zp{α:Type} [DecidableEq α]:α->List α->List α
 |_,[]=>[]
 |p,x::t=>if x=p then zp x t else x::zp x t
def MO [DecidableEq α](p:α):zp p []=[]:=by unfold zp;rfl
def JK [DecidableEq α]{p x:α}(h:x=p)(t:List α):zp p (x::t)=zp x t:=by
 conv=>lhs;unfold zp
 rw [bv h]
def Ro [DecidableEq α]{p x:α}(h: ¬x=p)(t:List α):zp p (x::t)=x::zp x t:=by
 conv=>lhs;unfold zp
 rw [bm h]
def Rn{α:Type} [DecidableEq α]:List α->List α
 |[]=>[]
 |x::t=>x::zp x t
def HR{α:Type} [DecidableEq α]: ∀(p:α) (l:List α) (z:α),z∈zp p l->z∈l
 |p,x::t,z,h=>by
  unfold zp at h
  split at h
  ·exact li _ (HR x t z h)
  ·rcases f7.1 h with rfl|h
   ·exact lg ..
   ·exact li _ (HR x t z h)
def Hc{α:Type} [DecidableEq α]: ∀(p:α) (l:List α) (z:α),z∈l->z=p\/z∈zp p l
 |p,x::t,z,h=>by
  unfold zp
  by_cases D:x=p
  ·rw [bv D]
   rcases f7.1 h with rfl|h
   ·exact .inl D
   ·rcases Hc x t z h with h|h
    ·exact .inl (h.trans D)
    ·exact .inr h
  ·rw [bm D]
   rcases f7.1 h with rfl|h
   ·exact .inr (lg ..)
   ·rcases Hc x t z h with h|h
    ·exact .inr (by rw [h];exact lg ..)
    ·exact .inr (li _ h)
def Sz [DecidableEq α](l:List α)(z:α):z∈Rn l↔z∈l:=by
 cases l with
 |nil=>exact ul
 |cons x t=>
  constructor
  ·intro h
   rcases f7.1 h with rfl|h
   ·exact lg ..
   ·exact li _ (HR x t z h)
  ·intro h
   rcases f7.1 h with rfl|h
   ·exact lg ..
   ·rcases Hc x t z h with rfl|h
    ·exact lg ..
    ·exact li _ h

structure Small(l:List Row):Prop where
 len:l.length<=8000
 row: ∀r∈l,r.length<=1000
def dP{n:Int}(h: -9223372036854775808<=n)(V:n<=9223372036854775807):IntKind.i64.wrap n=n:=by rw [Ao];omega
def we{xs:List α}{l m:Nat}(h:l<=m)(V:m<=xs.length):dH xs (l:Int) (m:Int)=some ((xs.take m).drop l):=by
 unfold dH
 rw [bv (by omega)]
 simp

def iX(n:Nat):Bool:=decide (97<=n)&&decide (n<=122)
def uO(n:Nat):Bool:=decide (48<=n)&&decide (n<=57)
def okN(n:Nat):Bool:=iX n||uO n||n==95
def Sl(b:UInt8):Bool:=okN b.toNat
def wT(n:Nat):wl (n:Int)=some (iX n):=by
 unfold wl iX
 congr 2<;>(rw [Ap];omega)
def CQ(n:Nat):zZ (n:Int)=some (uO n):=by
 unfold zZ uO
 congr 2<;>(rw [Ap];omega)
def uD(n:Nat):ve (n:Int)=some (iX n):=wT n
def GY(n:Nat):E4 (n:Int)=some (uO n):=CQ n
def OG{n:Nat}(h:okN n=true):n<128:=by
 unfold okN iX uO at h
 simp only [xY,gQ,mo,tg]at h
 omega
def VB(n:Nat):((n:Int) !=(95:Int))= !(n==95):=by
 rw [bne,vV]
 simp only [yn,Lp,ne_eq]
 omega
variable{i:Nat}
def Vv{s:cj}(h:i<s.length)(H:(s[i]).toNat<128):tQ s i=((s[i]).toNat,1):=
 decode_ascii ⟨s.toArray⟩ i (show i<(ByteArray.mk s.toArray).size from h) H
def SW{s:cj}(h:i<s.length)(H: ¬(s[i]).toNat<128):128<=(tQ s i).1:=
 (decode_high ⟨s.toArray⟩ i (show i<(ByteArray.mk s.toArray).size from h) (show 128<=(s[i]).toNat by omega)).1
def LP(s:cj): ∀(f i:Nat),s.length<i+f->pt (ux s f i)=some ((s.drop i).all Sl)
 |0,i,h=>by
  rw [o6 (by omega)];rfl
 |f+1,i,h=>by
  unfold ux
  by_cases hi:i<s.length
  ·rw [bv hi]
   unfold pt
   simp only [CQ,wT,aV,VB]
   rw [rn hi,sn]
   by_cases H:(s[i]).toNat<128
   ·rw [Vv hi H]
    simp only []
    have ih:=LP s f (i+1) (by omega)
    have e:Sl s[i]=(iX (s[i]).toNat||uO (s[i]).toNat||(s[i]).toNat==95):=rfl
    rw [e]
    cases A:uO (s[i]).toNat<;>cases V:iX (s[i]).toNat<;>cases h3:((s[i]).toNat==95)<;>simp [ih]
   ·have hh:=SW hi H
    have e:Sl s[i]=false:=by
     cases ho:Sl s[i]with
     |false=>rfl
     |true=>exact absurd (OG ho) H
    have e2:okN (tQ s i).1=false:=by
     cases ho:okN (tQ s i).1 with
     |false=>rfl
     |true=>have:=OG ho;omega
    rw [e,Bool.false_and]
    unfold okN at e2
    simp only [Ci]at e2
    obtain⟨⟨V,A⟩,h3⟩:=e2
    simp [A,V,h3]
  ·rw [bm hi,o6 (by omega)];rfl
def Gh(s:cj):Bool:=Y0.any fun w=>w==s
def Nr(v:cj): ∀(l:List cj) (i:Nat),∃j:Int,d8 v l i=some j/\decide (0<=j)=l.any fun w=>w==v
 |[],i=>⟨-1,rfl,rfl⟩
 |e::l,i=>by
  unfold d8
  by_cases h:v=e
  ·subst h
   exact⟨(i:Int),by simp,by simp⟩
  ·obtain⟨j,A,V⟩:=Nr v l (i+1)
   exact⟨j,by simp [h,A],by simp [V,Ne.symm h]⟩
def AW(s:cj):wU s=some (Gh s):=by
 unfold wU f9 fR
 obtain⟨j,A,V⟩:=Nr s Y0 0
 rw [A]
 simp only [aV,V]
 rfl
def UU(s:cj): ∀l:List cj,tG s l=some (l.any fun w=>w==s)
 |[]=>rfl
 |e::l=>by
  unfold tG
  rw [UU s l,A5]
  cases (e==s)<;>rfl
def FE(s:cj):wO s=some (Gh s):=by
 unfold wO E5 Jc
 rw [aV,UU]
 rfl
def NU(b:UInt8):UInt8:=UInt8.ofNat (if iX b.toNat then b.toNat-32 else b.toNat)
def RL: ∀b:UInt8,NU b=Lib.upperB b:=by
 intro b
 have key: ∀i:Fin 256,NU (UInt8.ofNat i.val)=Lib.upperB (UInt8.ofNat i.val):=by decide+kernel
 have:=key ⟨b.toNat,b.toNat_lt⟩
 simpa using this
def tz(a b:List Int):rf (a++b)=rf a++rf b:=by simp [rf]
def zB(s:cj)(hs:s.length<=1000): ∀(n i:Nat) (out:List Int),s.length<i+n->out.length<=i->i<=s.length->n5 s n out (i:Int)=some (rf out++(s.drop i).map NU)
 |0,i,out,h,_,V=>by omega
 |n+1,i,out,h,A,V=>by
  unfold n5
  by_cases hi:i<s.length
  ·rw [bv (by rw [mo];omega)]
   have e:td s (i:Int)=some ((s[i]).toNat:Int):=by
    unfold td
    rw [fE,qf hi];rfl
   have hw:IntKind.i64.wrap ((i:Int)+1)=((i+1:Nat):Int):=by rw [Ao];omega
   rw [e,aV,uD,aV,rn hi,pE]
   have hlt:=(s[i]).toNat_lt
   cases hsm:iX (s[i]).toNat with
   |true=>
    have h97:97<=(s[i]).toNat/\(s[i]).toNat<=122:=by simpa [iX] using hsm
    have hc:IntKind.u8.wrap (IntKind.u8.wrap (((s[i]).toNat:Int)-97)+65)=(((s[i]).toNat-32:Nat):Int):=by
     rw [IntKind.wrap_u8,IntKind.wrap_u8];omega
    rw [bv rfl,hc]
    unfold qE
    rw [dz (by simp;omega),aV,hw,zB s hs n (i+1) _ (by omega) (by simp;omega) (by omega),tz,gI]
    congr 2
    show rf [_]++_=_
    simp only [rf,pE,EH,xZ,pe]
    congr 1
    simp [NU,hsm]
   |false=>
    rw [bm (by simp)]
    unfold qE
    rw [dz (by simp;omega),aV,hw,zB s hs n (i+1) _ (by omega) (by simp;omega) (by omega),tz,gI]
    congr 2
    show rf [_]++_=_
    simp only [rf,pE,EH,xZ,pe]
    congr 1
    simp [NU,hsm]
  ·rw [bm (by rw [mo];omega),o6 (by omega)]
   simp
def GZ(s:cj)(hs:s.length<=1000):yU s=some (s.map NU):=by
 unfold yU
 rw [show((0:Int))=((0:Nat):Int)from rfl,zB s hs iB 0 [] (by unfold iB;omega) (gu _) (jv _)]
 rfl
def IL(s:cj)(hs:s.length<=1000)(ha: ∀b∈s,Sl b=true):kg s=some (s.map NU):=by
 unfold kg
 rw [bv (by omega),Lib.toUpperD_ascii s (fun b H=>OG (ha b H))]
 unfold Lib.toUpperA
 rw [show NU=Lib.upperB from funext RL]
def QZ:cj->Bool
 |[]=>false
 |b::_=>iX b.toNat
def iY(s:cj):Bool:=(decide (1<=s.length)&&decide (s.length<=16)&&QZ s)&&(!Gh (s.map NU)&&s.all Sl)
def Ef{b:UInt8}{t:cj}:td (b::t) (0:Int)=some (b.toNat:Int):=by unfold td;rfl
def kI(s:cj):kV s=some (iY s):=by
 unfold kV iY
 cases s with
 |nil=>rfl
 |cons b t=>
  by_cases hl:(b::t).length<=16
  ·rw [bv (by rw [show((b::t)==([]:cj))=false from rfl,An,yn,o7];omega),Ef,aV]
   have H:=b.toNat_lt
   rw [show IntKind.i32.wrap (b.toNat:Int)=(b.toNat:Int) by rw [IntKind.wrap_i32];omega,wT,aV,aV]
   have e0:(decide (1<=(b::t).length)&&decide ((b::t).length<=16)&&QZ (b::t))=iX b.toNat:=by
    rw [qi (show 1<=(b::t).length by simp),qi hl];rfl
   rw [e0]
   cases hsm:iX b.toNat with
   |false=>rfl
   |true=>
    have hr:=LP (b::t) ((b::t).length+1) 0 (by omega)
    rw [qh]at hr
    have hT:kg (b::t)=some (Lib.toUpperD (b::t)):=by unfold kg;rw [bv (by omega)]
    simp only [qg,v8,i8]
    cases ha:(b::t).all Sl with
    |true=>
     rw [IL (b::t) (by omega) (fun c hc=>mZ.1 ha c hc),aV,AW,aV,aV]
     unfold LQ
     rw [hr,ha]
     cases Gh ((b::t).map NU)<;>rfl
    |false=>
     rw [hT,aV,AW,aV,aV]
     unfold LQ
     rw [hr,ha]
     cases Gh (Lib.toUpperD (b::t))<;>simp
  ·rw [bm (by rw [show((b::t)==([]:cj))=false from rfl,An,yn,o7,Classical.not_not];omega)]
   rw [sO hl]
   simp
def Du(s:cj)(hs:s.length<=1000): ∀(n i:Nat),s.length<i+n->i<=s.length->pC s n (i:Int)=some ((s.drop i).all Sl)
 |0,i,h,V=>by omega
 |n+1,i,h,V=>by
  unfold pC
  by_cases hi:i<s.length
  ·rw [bv (by rw [mo];omega)]
   have e:td s (i:Int)=some ((s[i]).toNat:Int):=by
    unfold td
    rw [fE,qf hi];rfl
   have hw:IntKind.i64.wrap ((i:Int)+1)=((i+1:Nat):Int):=by rw [Ao];omega
   simp only [e,aV,uD,GY,VB,hw]
   rw [Du s hs n (i+1) (by omega) (by omega),rn hi,sn]
   have e2:Sl s[i]=(iX (s[i]).toNat||uO (s[i]).toNat||(s[i]).toNat==95):=rfl
   rw [e2]
   cases A:uO (s[i]).toNat<;>cases V:iX (s[i]).toNat<;>cases h3:((s[i]).toNat==95)<;>simp
  ·rw [bm (by rw [mo];omega),o6 (by omega)]
   rfl
def xL(s:cj):tH s=some (iY s):=by
 unfold tH iY
 cases s with
 |nil=>rfl
 |cons b t=>
  by_cases hl:(b::t).length<=16
  ·rw [bv (by rw [yn,Ci,o7,o7];simp at hl ⊢;omega),Ef,aV,uD,aV,aV]
   have e0:(decide (1<=(b::t).length)&&decide ((b::t).length<=16)&&QZ (b::t))=iX b.toNat:=by
    rw [qi (show 1<=(b::t).length by simp),qi hl];rfl
   rw [e0]
   cases hsm:iX b.toNat with
   |false=>rfl
   |true=>
    simp only [qg,v8,i8]
    rw [GZ _ (by omega),aV,FE,aV,aV,show((0:Int))=((0:Nat):Int)from rfl,Du _ (by omega) iB 0 (by unfold iB;omega) (jv _),qh]
    cases Gh ((b::t).map NU)<;>simp
  ·rw [bm (by rw [yn,Ci,o7,o7];omega)]
   rw [sO hl]
   simp

def vk(k:Int):Bool:=k==1||k==2||k==3
def FI(k:Int): ∃r,tR k=some r/\(r==([]:cj))= !vk k:=by
 have g0:ep Y1 ((0:Nat):Int)=some ⟨[98,111,111,108],1⟩:=rfl
 have g1:ep Y1 ((0+1:Nat):Int)=some ⟨[105,110,116],2⟩:=rfl
 have g2:ep Y1 ((0+1+1:Nat):Int)=some ⟨[116,101,120,116],3⟩:=rfl
 unfold tR
 by_cases A:k=1
 ·subst A;exact⟨_,by simp only [ki,g0,aV];rfl,rfl⟩
 by_cases V:k=2
 ·subst V;exact⟨_,by simp only [ki,g0,g1,aV];rfl,rfl⟩
 by_cases h3:k=3
 ·subst h3;exact⟨_,by simp only [ki,g0,g1,g2,aV];rfl,rfl⟩
 have n1:((1:Int)==k)=false:=by simpa using Ne.symm A
 have n2:((2:Int)==k)=false:=by simpa using Ne.symm V
 have n3:((3:Int)==k)=false:=by simpa using Ne.symm h3
 refine⟨[],?_,?_⟩
 ·simp only [ki,g0,g1,g2,aV,n1,n2,n3];rfl
 ·simp [vk,A,V,h3]
def Iz(k:Int): ∃r,Bs k=some r/\(r==([]:cj))= !vk k:=by
 unfold Bs
 by_cases A:k=1
 ·subst A;exact⟨_,rfl,rfl⟩
 by_cases V:k=2
 ·subst V;exact⟨_,rfl,rfl⟩
 by_cases h3:k=3
 ·subst h3;exact⟨_,rfl,rfl⟩
 exact⟨[],by simp [A,V,h3],by simp [vk,A,V,h3]⟩
def FG(p:List bJ)(x:bJ):Bool:=p.any fun y=>y.Name==x.Name
def SZ:List bJ->List bJ->Bool
 |_,[]=>true
 |p,x::t=>(!FG p x&&iY x.Name)&&SZ (p++[x]) t
def HV:List bJ->List bJ->Bool
 |_,[]=>true
 |p,x::t=>(iY x.Name&&vk x.Kind&& !FG p x)&&HV (p++[x]) t
def Lb: ∀(t p:List bJ),HV p t=(SZ p t&&t.all fun x=>vk x.Kind)
 |[],_=>rfl
 |x::t,p=>by
  unfold HV SZ
  rw [Lb t (p++[x]),sn]
  cases FG p x<;>cases iY x.Name<;>cases vk x.Kind<;>simp
def US(x:bJ)(t:List bJ): ∀(p:List bJ) (i:Nat),∃k:Nat,cW (gc gh x.Name) (p++x::t) i=some ((i+k:Nat):Int)/\(k !=p.length)=FG p x
 |[],i=>⟨0,by unfold cW;simp [gc,gh],rfl⟩
 |y::p,i=>by
  rw [xZ]
  unfold cW
  rw [show gc gh x.Name y=some (y.Name==x.Name)from rfl,aV]
  cases h:(y.Name==x.Name)with
  |true=>exact⟨0,rfl,by unfold FG;rw [A5,h];rfl⟩
  |false=>
   obtain⟨k,A,V⟩:=US x t p (i+1)
   refine⟨k+1,by rw [bm (by simp),A];congr 2;omega,?_⟩
   unfold FG at V ⊢
   rw [A5,h,An,<-V,iZ]
   rw [vV];simp
def aba(x:bJ)(p t:List bJ): ∃k:Int,kc (p++x::t) gh x.Name=some (k,true)/\(k !=(p.length:Int))=FG p x:=by
 obtain⟨k,A,V⟩:=US x t p 0
 refine⟨(k:Int),?_,?_⟩
 ·unfold kc gS
  rw [A,aV,rj]
  have e1:max (k:Int) 0=(k:Int):=by omega
  have e2:decide ((0:Int)<=(k:Int))=true:=qi (by omega)
  rw [e1,e2]
 ·rw [<-V,vV];simp;omega
def X0: ∀(t p:List bJ),gW (p++t) gh t p.length=some (SZ p t)
 |[],p=>rfl
 |x::t,p=>by
  unfold gW
  obtain⟨k,A,V⟩:=aba x p t
  rw [show gh x=some x.Name from rfl,aV,A,aV]
  simp only [V,aV,kI]
  unfold SZ
  have ih:=X0 t (p++[x])
  rw [gI,Iq,gA,yb]at ih
  rw [ih]
  cases FG p x<;>cases iY x.Name<;>simp
def Kv(l:List bJ):mL l gh=some (SZ [] l):=X0 l []
def CS(t:bR): ∀(l:List bJ) (ok:Bool),iq t l ok=gz t t.Keys 0 (ok&&l.all fun x=>vk x.Kind)
 |[],ok=>by unfold iq;simp
 |x::l,ok=>by
  unfold iq
  obtain⟨r,A,V⟩:=FI x.Kind
  cases ok with
  |false=>
   rw [bm (by simp),aV,CS t l];simp
  |true=>
   rw [bv rfl,A,aV,aV,CS t l,V,sn];simp
def KQ(n:Nat):Option Int->List Int->Bool
 |_,[]=>true
 |o,k::t=>(decide (0<=k)&&decide (k<(n:Int))&&(o.all fun j=>decide (j<k)))&&KQ n (some k) t
def RC(n:Nat)(o:Option Int)(k:Int)(t:List Int):KQ n o (k::t)=((decide (0<=k)&&decide (k<(n:Int))&&(o.all fun j=>decide (j<k)))&&KQ n (some k) t):=rfl
def Je(l:List Int):Nat->Option Int
 |0=>none
 |i+1=>l[i]?
def CJ{l:List Int}(h:i<l.length):Je l (i+1)=some l[i]:=qf h
def Mt{l:List Int}(h:i+1<=l.length)(hl:l.length<=100000):ep l (IntKind.i64.wrap (((i+1:Nat):Int)-1))=some l[i]:=by
 rw [show IntKind.i64.wrap (((i+1:Nat):Int)-1)=(i:Int) by rw [Ao];omega,fE,qf (by omega)]
def QQ(t:bR)(hl:t.Keys.length<=100000): ∀(n i:Nat) (ok:Bool),t.Keys.length-i=n->i<=t.Keys.length->gz t (t.Keys.drop i) i ok=some (if ok&&KQ t.Columns.length (Je t.Keys i) (t.Keys.drop i)then 0 else 211)
 |0,i,ok,h,hi=>by
  rw [o6 (by omega)]
  unfold gz KQ
  cases ok<;>rfl
 |n+1,i,ok,h,hi=>by
  have hlt:i<t.Keys.length:=by omega
  rw [rn hlt,RC]
  unfold gz
  have ih:=QQ t hl n (i+1)
  rw [CJ hlt]at ih
  cases ok with
  |false=>
   simp only [Bool.false_and,lh,jB,aV]
   rw [ih false (by omega) (by omega)];simp
  |true=>
   simp only [vG]
   by_cases A:(0:Int)<=t.Keys[i]
   ·by_cases V:t.Keys[i]<(t.Columns.length:Int)
    ·rw [bv (by rw [qi A,qi V];rfl),qi A,qi V]
     cases i with
     |zero=>
      rw [bm (by simp),aV,aV,ih true (by omega) (by omega)]
      simp [Je]
     |succ j=>
      rw [bv (by simp;omega),Mt (by omega) hl,aV,aV,aV,ih _ (by omega) (by omega),CJ (by omega)]
      simp [Option.all]
    ·rw [bm (by rw [sO V];simp),aV,ih false (by omega) (by omega),sO V];simp
   ·rw [bm (by rw [sO A];simp),aV,ih false (by omega) (by omega),sO A];simp
def LW(t:bR)(hl:t.Keys.length<=100000): ∀(n i:Nat),t.Keys.length<i+n->i<=t.Keys.length->me t n (i:Int)=some (KQ t.Columns.length (Je t.Keys i) (t.Keys.drop i))
 |0,i,h,hi=>by omega
 |n+1,i,h,hi=>by
  unfold me
  by_cases hlt:i<t.Keys.length
  ·have hw:IntKind.i64.wrap ((i:Int)+1)=((i+1:Nat):Int):=by rw [Ao];omega
   have ih:=LW t hl n (i+1) (by omega) (by omega)
   rw [CJ hlt]at ih
   rw [bv (by rw [mo];omega),fE,qf hlt,aV,hw,ih,rn hlt,RC]
   by_cases A:(0:Int)<=t.Keys[i]
   ·by_cases V:t.Keys[i]<(t.Columns.length:Int)
    ·rw [bv (by rw [sO (show¬t.Keys[i]<0 by omega),sO (show¬(t.Columns.length:Int)<=t.Keys[i] by omega)];rfl),qi A,qi V]
     cases i with
     |zero=>
      rw [bm (by simp)]
      simp [Je]
     |succ j=>
      rw [bv (by rw [mo];omega),Mt (by omega) hl,CJ (show j<t.Keys.length by omega)]
      simp only [aV,Option.all,vG]
      by_cases h3:t.Keys[j]<t.Keys[j+1]
      ·rw [qi h3,sO (show¬t.Keys[j+1]<=t.Keys[j] by omega)];simp
      ·rw [sO h3,qi (show t.Keys[j+1]<=t.Keys[j] by omega)];simp
    ·rw [bm (by rw [qi (show(t.Columns.length:Int)<=t.Keys[i] by omega)];simp),sO V];simp
   ·rw [bm (by rw [qi (show t.Keys[i]<0 by omega)];simp),sO A];simp
  ·rw [bm (by rw [mo];omega),o6 (by omega)];rfl
def wC(t:bR):Bool:=(iY t.Name&&decide (1<=t.Columns.length)&&decide (t.Columns.length<=4))&&(HV [] t.Columns&&KQ t.Columns.length none t.Keys)
def IN(t:bR)(hl:t.Keys.length<=100000):nt t=some (if wC t then 0 else 211):=by
 unfold nt wC
 rw [kI,aV,Lb]
 have key:=QQ t hl t.Keys.length 0
 rw [qh]at key
 have e1:decide ((1:Int)<=(t.Columns.length:Int))=decide (1<=t.Columns.length):=by rw [Ap];omega
 have e2:decide ((t.Columns.length:Int)<=(4:Int))=decide (t.Columns.length<=4):=by rw [Ap];omega
 rw [e1,e2]
 cases h:(iY t.Name&&decide (1<=t.Columns.length)&&decide (t.Columns.length<=4))with
 |false=>
  rw [bm (by simp),aV,CS,key _ rfl (jv _)];simp
 |true=>
  rw [bv rfl,Kv,aV,aV,CS,key _ rfl (jv _)]
  simp [Je]
def Ja(t:bR)(nx:Int->Option Bool)(i:Nat)(hi:i<t.Columns.length)(hn:t.Columns.length<=4)(e:bJ): ∀(n k:Nat),i<k+n->k<=i->mf t nx (i:Int) e n (k:Int)=if((t.Columns.take i).drop k).any (fun y=>y.Name==e.Name)then some false else nx ((i+1:Nat):Int)
 |0,k,h,hk=>by omega
 |n+1,k,h,hk=>by
  unfold mf
  by_cases hlt:k<i
  ·have hw:IntKind.i64.wrap ((k:Int)+1)=((k+1:Nat):Int):=by rw [Ao];omega
   have hl2:k<(t.Columns.take i).length:=by simp;omega
   rw [bv (by rw [mo];omega),fE,qf (by omega),aV,hw,Ja t nx i hi hn e n (k+1) (by omega) (by omega),rn hl2,A5,List.getElem_take]
   cases (t.Columns[k].Name==e.Name)<;>simp
  ·have hw:IntKind.i64.wrap ((i:Int)+1)=((i+1:Nat):Int):=by rw [Ao];omega
   rw [bm (by rw [mo];omega),hw,o6 (by simp;omega)]
   simp
def Qx(t:bR)(hn:t.Columns.length<=4)(hl:t.Keys.length<=100000): ∀(n i:Nat),t.Columns.length<i+n->i<=t.Columns.length->mg t n (i:Int)=some (HV (t.Columns.take i) (t.Columns.drop i)&&KQ t.Columns.length none t.Keys)
 |0,i,h,hi=>by omega
 |n+1,i,h,hi=>by
  unfold mg
  by_cases hlt:i<t.Columns.length
  ·obtain⟨r,A,V⟩:=Iz t.Columns[i].Kind
   have ih:=Qx t hn hl n (i+1) (by omega) (by omega)
   rw [bv (by rw [mo];omega),fE,qf hlt,aV,xL,aV,A,show((0:Int))=((0:Nat):Int)from rfl,Ja t _ i hlt hn _ iB 0 (by unfold iB;omega) (jv _),ih,qh,rn hlt,NF hlt,show∀p x t,HV p (x::t)=((iY x.Name&&vk x.Kind&& !FG p x)&&HV (p++[x]) t)from fun _ _ _=>rfl]
   simp only [aV,V]
   show _=some ((iY t.Columns[i].Name&&vk t.Columns[i].Kind&& !((t.Columns.take i).any fun y=>y.Name==t.Columns[i].Name))&&_&&_)
   cases iY t.Columns[i].Name<;>cases vk t.Columns[i].Kind<;>cases ((t.Columns.take i).any fun y=>y.Name==t.Columns[i].Name)<;>simp
  ·rw [bm (by rw [mo];omega),show((0:Int))=((0:Nat):Int)from rfl,LW t hl iB 0 (by unfold iB;omega) (jv _),o6 (show t.Columns.length<=i by omega),qh]
   rfl
def IM(t:bR)(hl:t.Keys.length<=100000):rz t=some (wC t):=by
 unfold rz wC
 rw [xL,aV]
 by_cases A:1<=t.Columns.length
 ·by_cases V:t.Columns.length<=4
  ·rw [sO (show¬(t.Columns.length:Int)<1 by omega),sO (show¬(4:Int)<(t.Columns.length:Int) by omega),qi A,qi V,show((0:Int))=((0:Nat):Int)from rfl,Qx t V hl iB 0 (by unfold iB;omega) (jv _),List.take_zero,qh]
   cases iY t.Name<;>simp
  ·rw [qi (show(4:Int)<(t.Columns.length:Int) by omega),sO V];simp
 ·rw [qi (show(t.Columns.length:Int)<1 by omega),sO A];simp
def KK(p:List bR)(x:bR):Bool:=p.any fun y=>y.Name==x.Name
def N1:List bR->List bR->Bool
 |_,[]=>true
 |p,x::t=>(!KK p x&&iY x.Name)&&N1 (p++[x]) t
def N0:List bR->List bR->Bool
 |_,[]=>true
 |p,x::t=>(wC x&& !KK p x)&&N0 (p++[x]) t
def TR{t:bR}(h:wC t=true):iY t.Name=true:=by
 unfold wC at h
 simp only [gQ]at h
 exact h.1.1.1
def Kf: ∀(t p:List bR),N0 p t=(t.all wC&&N1 p t)
 |[],_=>rfl
 |x::t,p=>by
  unfold N0 N1
  rw [Kf t (p++[x]),sn]
  cases h:wC x with
  |false=>simp
  |true=>
   rw [TR h]
   cases KK p x<;>simp
def UR(x:bR)(t:List bR): ∀(p:List bR) (i:Nat),∃k:Nat,bM (eD eI x.Name) (p++x::t) i=some ((i+k:Nat):Int)/\(k !=p.length)=KK p x
 |[],i=>⟨0,by unfold bM;simp [eD,eI],rfl⟩
 |y::p,i=>by
  rw [xZ]
  unfold bM
  rw [show eD eI x.Name y=some (y.Name==x.Name)from rfl,aV]
  cases h:(y.Name==x.Name)with
  |true=>exact⟨0,rfl,by unfold KK;rw [A5,h];rfl⟩
  |false=>
   obtain⟨k,A,V⟩:=UR x t p (i+1)
   refine⟨k+1,by rw [bm (by simp),A];congr 2;omega,?_⟩
   unfold KK at V ⊢
   rw [A5,h,An,<-V,iZ]
   rw [vV];simp
def aa9(x:bR)(p t:List bR): ∃k:Int,ib (p++x::t) eI x.Name=some (k,true)/\(k !=(p.length:Int))=KK p x:=by
 obtain⟨k,A,V⟩:=UR x t p 0
 refine⟨(k:Int),?_,?_⟩
 ·unfold ib dB
  rw [A,aV,rj]
  have e1:max (k:Int) 0=(k:Int):=by omega
  have e2:decide ((0:Int)<=(k:Int))=true:=qi (by omega)
  rw [e1,e2]
 ·rw [<-V,vV];simp;omega
def XZ: ∀(t p:List bR),ii (p++t) eI t p.length=some (N1 p t)
 |[],p=>rfl
 |x::t,p=>by
  unfold ii
  obtain⟨k,A,V⟩:=aa9 x p t
  rw [show eI x=some x.Name from rfl,aV,A,aV]
  simp only [V,aV,kI]
  unfold N1
  have ih:=XZ t (p++[x])
  rw [gI,Iq,gA,yb]at ih
  rw [ih]
  cases KK p x<;>cases iY x.Name<;>simp
def BQ(c:aw):Prop:= ∀t∈c.Tables,t.Keys.length<=100000
def Dc: ∀(l:List bR) (i:Nat),(∀t∈l,t.Keys.length<=100000)-> ∃j:Int,bM lp l i=some j/\decide (0<=j)= !l.all wC
 |[],i,_=>⟨-1,rfl,rfl⟩
 |x::l,i,h=>by
  unfold bM
  rw [show lp x=some (!wC x) by unfold lp;rw [IN x (h x (lg ..)),aV];cases wC x<;>rfl,aV,sn]
  cases D:wC x with
  |false=>exact⟨(i:Int),rfl,by simp⟩
  |true=>
   obtain⟨j,A,V⟩:=Dc l (i+1) fun t M=>h t (li _ M)
   exact⟨j,by simpa using A,by simpa using V⟩
def HX(c:aw):Bool:=decide (c.Tables.length<=4)&&N0 [] c.Tables
def oU{c:aw}(h:BQ c):sl c=some (if HX c then 0 else 210):=by
 unfold sl HX
 obtain⟨j,A,V⟩:=Dc c.Tables 0 h
 have h3:nq c.Tables eI=some (N1 [] c.Tables):=XZ c.Tables []
 rw [Kf]
 by_cases hl:c.Tables.length<=4
 ·rw [sO (show¬(4:Int)<(c.Tables.length:Int) by omega),qi hl]
  unfold gJ dB
  rw [A,h3]
  simp only [v8,i8,aV,V]
  cases c.Tables.all wC<;>cases N1 [] c.Tables<;>rfl
 ·rw [qi (show(4:Int)<(c.Tables.length:Int) by omega),sO hl];rfl
def I9(c:aw)(nx:Int->Option Bool)(i:Nat)(hi:i<c.Tables.length)(hn:c.Tables.length<=4)(e:bR): ∀(n k:Nat),i<k+n->k<=i->qz c nx (i:Int) e n (k:Int)=if((c.Tables.take i).drop k).any (fun y=>y.Name==e.Name)then some false else nx ((i+1:Nat):Int)
 |0,k,h,hk=>by omega
 |n+1,k,h,hk=>by
  unfold qz
  by_cases hlt:k<i
  ·have hw:IntKind.i64.wrap ((k:Int)+1)=((k+1:Nat):Int):=by rw [Ao];omega
   have hl2:k<(c.Tables.take i).length:=by simp;omega
   rw [bv (by rw [mo];omega),fE,qf (by omega),aV,hw,I9 c nx i hi hn e n (k+1) (by omega) (by omega),rn hl2,A5,List.getElem_take]
   cases (c.Tables[k].Name==e.Name)<;>simp
  ·have hw:IntKind.i64.wrap ((i:Int)+1)=((i+1:Nat):Int):=by rw [Ao];omega
   rw [bm (by rw [mo];omega),hw,o6 (by simp;omega)]
   simp
def Qw(c:aw)(hn:c.Tables.length<=4)(hc:BQ c): ∀(n i:Nat),c.Tables.length<i+n->i<=c.Tables.length->qA c n (i:Int)=some (N0 (c.Tables.take i) (c.Tables.drop i))
 |0,i,h,hi=>by omega
 |n+1,i,h,hi=>by
  unfold qA
  by_cases hlt:i<c.Tables.length
  ·have ih:=Qw c hn hc n (i+1) (by omega) (by omega)
   rw [bv (by rw [mo];omega),fE,qf hlt,aV,IM _ (hc _ (Ch hlt)),aV,show((0:Int))=((0:Nat):Int)from rfl,I9 c _ i hlt hn _ iB 0 (by unfold iB;omega) (jv _),ih,qh,rn hlt,NF hlt,show∀p x t,N0 p (x::t)=((wC x&& !KK p x)&&N0 (p++[x]) t)from fun _ _ _=>rfl]
   show _=some ((wC c.Tables[i]&& !((c.Tables.take i).any fun y=>y.Name==c.Tables[i].Name))&&_)
   cases wC c.Tables[i]<;>cases ((c.Tables.take i).any fun y=>y.Name==c.Tables[i].Name)<;>simp
  ·rw [bm (by rw [mo];omega),o6 (show c.Tables.length<=i by omega)]
   rfl
def GR{c:aw}(h:BQ c):yQ c=some (HX c):=by
 unfold yQ HX
 by_cases hl:c.Tables.length<=4
 ·rw [bm (by rw [mo];omega),show((0:Int))=((0:Nat):Int)from rfl,Qw c hl h iB 0 (by unfold iB;omega) (jv _),qi hl]
  rfl
 ·rw [bv (by rw [mo];omega),sO hl];rfl
end Go.Proofs.YtigldkegamffhaaGreatDoor

