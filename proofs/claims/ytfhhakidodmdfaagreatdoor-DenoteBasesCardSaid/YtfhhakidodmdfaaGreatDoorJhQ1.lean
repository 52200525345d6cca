/- cX of this claim: K1, K2, K3, K4, Q1, Q2, Q3. -/
import Derived.Test.YtfhhakidodmdfaaGreatDoorJhF
import Derived.KernelRfl
import Derived.Test.YtfhhakidodmdfaaGreatDoorJhV4
import Derived.Laws.RangeAny
import Derived.Shelf.Strings.CaseAny
set_option linter.all false
namespace Go.Proofs.YtfhhakidodmdfaaGreatDoor
open Go

abbrev EZ:=List M
theorem A9{α:Type}{xs ys:List α}(h:xs.length+ys.length≤68719476736):k5 xs ys=some (xs++ys):=c9 h
def tt(v:M):Bool:=(kU v).getD false
theorem xM(v:M):kU v=some (tt v):=by
 unfold tt kU
 repeat' split
 all_goals rfl
theorem xn(v:M):iP v=some (if tt v then 0 else 120):=by
 obtain⟨k,n,u,s⟩:=v
 unfold tt kU iP rh
 simp only [gy,lb,la,k7]
 by_cases h0:k=0
 ·subst h0;simp
  repeat' split
  all_goals simp_all
 by_cases h1:k=1
 ·subst h1
  by_cases n0:n=0
  ·subst n0;simp
   repeat' split
   all_goals simp_all
  by_cases n1:n=1
  ·subst n1;simp
   repeat' split
   all_goals simp_all
  simp [n0,n1]
 by_cases h2:k=2
 ·subst h2;simp
  repeat' split
  all_goals simp_all
 by_cases h3:k=3
 ·subst h3;simp
  repeat' split
  all_goals simp_all
 by_cases h4:k=4
 ·subst h4;simp
  repeat' split
  all_goals simp_all
 simp [h0,h1,h2,h3,h4]

structure Cmp{α:Type}(f:α→α→Int):Prop where
 rng: ∀x y,f x y= -1∨f x y=0∨f x y=1
 anti: ∀x y,f y x= -f x y
 eq: ∀x y,f x y=0↔x=y
 trans: ∀x y z,f x y≤0→f y z≤0→f x z≤0
def key(v:M):Int×Int×Int×eA:=(v.Kind,v.N,v.U,v.S)

section
variable{α:Type}{f:α→α→Int}
def ltB(f:α→α→Int)(x y:α):Bool:=decide (f x y<0)
def u7(f:α→α→Int)(l:List α):List α:=zy (ltB f) l
def put(f:α→α→Int)(x:α):List α→List α
 |[]=>[x]
 |y::l=>if f x y<0 then x::y::l else y::put f x l
end

structure Small(l:List EZ):Prop where
 len:l.length≤8000
 row: ∀r∈l,r.length≤1000

def jJ(n:Nat):Bool:=decide (97≤n)&&decide (n≤122)
def qy(n:Nat):Bool:=decide (48≤n)&&decide (n≤57)
def MJ(n:Nat):Bool:=jJ n||qy n||n==95
def H8(b:UInt8):Bool:=MJ b.toNat
theorem qg(n:Nat):pL (n:Int)=some (jJ n):=by
 unfold pL jJ
 congr 2<;>(rw [decide_eq_decide];omega)
theorem uv(n:Nat):sm (n:Int)=some (qy n):=by
 unfold sm qy
 congr 2<;>(rw [decide_eq_decide];omega)
theorem nU(n:Nat):mH (n:Int)=some (jJ n):=qg n
theorem xK(n:Nat):rx (n:Int)=some (qy n):=uv n
theorem Dt{n:Nat}(h:MJ n=true):n<128:=by
 unfold MJ jJ qy at h
 simp only [Ac,km,gU,beq_iff_eq]at h
 omega
theorem HE(n:Nat):((n:Int) !=(95:Int))= !(n==95):=by
 rw [bne,xg]
 simp only [yD,beq_eq_false_iff_ne,ne_eq]
 omega
variable{i:Nat}
theorem Hm{s:eA}(h:i<s.length)(hb:(s[i]).toNat<128):nm s i=((s[i]).toNat,1):=
 decode_ascii ⟨s.toArray⟩ i (show i<(ByteArray.mk s.toArray).size from h) hb
theorem FP{s:eA}(h:i<s.length)(hb: ¬(s[i]).toNat<128):128≤(nm s i).1:=
 (decode_high ⟨s.toArray⟩ i (show i<(ByteArray.mk s.toArray).size from h) (show 128≤(s[i]).toNat by omega)).1
theorem BK(s:eA): ∀(f i:Nat),s.length<i+f→kx (nS s f i)=some ((s.drop i).all H8)
 |0,i,h=>by
  rw [oI (by omega)];rfl
 |f+1,i,h=>by
  unfold nS
  by_cases hi:i<s.length
  ·rw [c9 hi]
   unfold kx
   simp only [uv,qg,im,HE]
   rw [oJ hi,Aa]
   by_cases hb:(s[i]).toNat<128
   ·rw [Hm hi hb]
    simp only []
    have ih:=BK s f (i+1) (by omega)
    have e:H8 s[i]=(jJ (s[i]).toNat||qy (s[i]).toNat||(s[i]).toNat==95):=rfl
    rw [e]
    cases h1:qy (s[i]).toNat<;>cases h2:jJ (s[i]).toNat<;>cases h3:((s[i]).toNat==95)<;>simp [ih]
   ·have hh:=FP hi hb
    have e:H8 s[i]=false:=by
     cases ho:H8 s[i]with
     |false=>rfl
     |true=>exact absurd (Dt ho) hb
    have e2:MJ (nm s i).1=false:=by
     cases ho:MJ (nm s i).1 with
     |false=>rfl
     |true=>have:=Dt ho;omega
    rw [e,Bool.false_and]
    unfold MJ at e2
    simp only [Bool.or_eq_false_iff]at e2
    obtain⟨⟨h2,h1⟩,h3⟩:=e2
    simp [h1,h2,h3]
  ·rw [cZ hi,oI (by omega)];rfl
def za(s:eA):Bool:=M5.any fun w=>w==s
theorem Cz(v:eA): ∀(l:List eA) (i:Nat),∃j:Int,dH v l i=some j∧decide (0≤j)=l.any fun w=>w==v
 |[],i=>⟨-1,rfl,rfl⟩
 |e::l,i=>by
  unfold dH
  by_cases h:v=e
  ·subst h
   exact⟨(i:Int),by simp,by simp⟩
  ·obtain⟨j,h1,h2⟩:=Cz v l (i+1)
   exact⟨j,by simp [h,h1],by simp [h2,Ne.symm h]⟩
theorem sX(s:eA):qh s=some (za s):=by
 unfold qh fD gC
 obtain⟨j,h1,h2⟩:=Cz s M5 0
 rw [h1]
 simp only [im,h2]
 rfl
theorem GI(s:eA): ∀l:List eA,li s l=some (l.any fun w=>w==s)
 |[]=>rfl
 |e::l=>by
  unfold li
  rw [GI s l,xf]
  cases (e==s)<;>rfl
theorem wG(s:eA):nj s=some (za s):=by
 unfold nj ry vo
 rw [im,GI]
 rfl
def Gg(b:UInt8):UInt8:=UInt8.ofNat (if jJ b.toNat then b.toNat-32 else b.toNat)
theorem Fi: ∀b:UInt8,Gg b=Lib.upperB b:=by
 intro b
 have key: ∀i:Fin 256,Gg (UInt8.ofNat i.val)=Lib.upperB (UInt8.ofNat i.val):=by decide+kernel
 have:=key ⟨b.toNat,b.toNat_lt⟩
 simpa using this
theorem uf(a b:List Int):na (a++b)=na a++na b:=by simp [na]
theorem r8(s:eA)(hs:s.length≤1000): ∀(n i:Nat) (out:List Int),s.length<i+n→out.length≤i→i≤s.length→gG s n out (i:Int)=some (na out++(s.drop i).map Gg)
 |0,i,out,h,_,h2=>by omega
 |n+1,i,out,h,h1,h2=>by
  unfold gG
  by_cases hi:i<s.length
  ·rw [c9 (by rw [gU];omega)]
   have e:uz s (i:Int)=some ((s[i]).toNat:Int):=by
    unfold uz
    rw [iw,lK hi];rfl
   have hw:IntKind.i64.wrap ((i:Int)+1)=((i+1:Nat):Int):=by rw [xc];omega
   rw [e,im,nU,im,oJ hi,wu]
   have hlt:=(s[i]).toNat_lt
   cases hsm:jJ (s[i]).toNat with
   |true=>
    have h97:97≤(s[i]).toNat∧(s[i]).toNat≤122:=by simpa [jJ] using hsm
    have hc:IntKind.u8.wrap (IntKind.u8.wrap (((s[i]).toNat:Int)-97)+65)=(((s[i]).toNat-32:Nat):Int):=by
     rw [IntKind.wrap_u8,IntKind.wrap_u8];omega
    rw [c9 rfl,hc]
    unfold jM
    rw [A9 (by simp;omega),im,hw,r8 s hs n (i+1) _ (by omega) (by simp;omega) (by omega),uf,vc]
    congr 2
    show na [_]++_=_
    simp only [na,wu,List.map_nil,Bq,ww]
    congr 1
    simp [Gg,hsm]
   |false=>
    rw [cZ (by simp)]
    unfold jM
    rw [A9 (by simp;omega),im,hw,r8 s hs n (i+1) _ (by omega) (by simp;omega) (by omega),uf,vc]
    congr 2
    show na [_]++_=_
    simp only [na,wu,List.map_nil,Bq,ww]
    congr 1
    simp [Gg,hsm]
  ·rw [cZ (by rw [gU];omega),oI (by omega)]
   simp
theorem xL(s:eA)(hs:s.length≤1000):oQ s=some (s.map Gg):=by
 unfold oQ
 rw [show((0:Int))=((0:Nat):Int)from rfl,r8 s hs ip 0 [] (by unfold ip;omega) (ia _) (gx _)]
 rfl
theorem y0(s:eA)(hs:s.length≤1000)(ha: ∀b∈s,H8 b=true):fS s=some (s.map Gg):=by
 unfold fS
 rw [c9 (by omega),Lib.toUpperD_ascii s (fun b hb=>Dt (ha b hb))]
 unfold Lib.toUpperA
 rw [show Gg=Lib.upperB from funext Fi]
def GH:eA→Bool
 |[]=>false
 |b::_=>jJ b.toNat
def mK(s:eA):Bool:=(decide (1≤s.length)&&decide (s.length≤16)&&GH s)&&(!za (s.map Gg)&&s.all H8)
theorem zz{b:UInt8}{t:eA}:uz (b::t) (0:Int)=some (b.toNat:Int):=by unfold uz;rfl
variable{c:cY}
theorem pk(s:eA):lT s=some (mK s):=by
 unfold lT mK
 cases s with
 |nil=>rfl
 |cons b t=>
  by_cases hl:(b::t).length≤16
  ·rw [c9 (by rw [show((b::t)==([]:eA))=false from rfl,s5,yD,Fe];omega),zz,im]
   have hb:=b.toNat_lt
   rw [show IntKind.i32.wrap (b.toNat:Int)=(b.toNat:Int) by rw [IntKind.wrap_i32];omega,qg,im,im]
   have e0:(decide (1≤(b::t).length)&&decide ((b::t).length≤16)&&GH (b::t))=jJ b.toNat:=by
    rw [kG (show 1≤(b::t).length by simp),kG hl];rfl
   rw [e0]
   cases hsm:jJ b.toNat with
   |false=>rfl
   |true=>
    have hr:=BK (b::t) ((b::t).length+1) 0 (by omega)
    rw [nG]at hr
    have hT:fS (b::t)=some (Lib.toUpperD (b::t)):=by unfold fS;rw [c9 (by omega)]
    simp only [va,Bool.not_false,nI]
    cases ha:(b::t).all H8 with
    |true=>
     rw [y0 (b::t) (by omega) (fun c hc=>kH.1 ha c hc),im,sX,im,im]
     unfold BL
     rw [hr,ha]
     cases za ((b::t).map Gg)<;>rfl
    |false=>
     rw [hT,im,sX,im,im]
     unfold BL
     rw [hr,ha]
     cases za (Lib.toUpperD (b::t))<;>simp
  ·rw [cZ (by rw [show((b::t)==([]:eA))=false from rfl,s5,yD,Fe,Classical.not_not];omega)]
   rw [lD hl]
   simp
theorem u4(s:eA)(hs:s.length≤1000): ∀(n i:Nat),s.length<i+n→i≤s.length→ji s n (i:Int)=some ((s.drop i).all H8)
 |0,i,h,h2=>by omega
 |n+1,i,h,h2=>by
  unfold ji
  by_cases hi:i<s.length
  ·rw [c9 (by rw [gU];omega)]
   have e:uz s (i:Int)=some ((s[i]).toNat:Int):=by
    unfold uz
    rw [iw,lK hi];rfl
   have hw:IntKind.i64.wrap ((i:Int)+1)=((i+1:Nat):Int):=by rw [xc];omega
   simp only [e,im,nU,xK,HE,hw]
   rw [u4 s hs n (i+1) (by omega) (by omega),oJ hi,Aa]
   have e2:H8 s[i]=(jJ (s[i]).toNat||qy (s[i]).toNat||(s[i]).toNat==95):=rfl
   rw [e2]
   cases h1:qy (s[i]).toNat<;>cases h2:jJ (s[i]).toNat<;>cases h3:((s[i]).toNat==95)<;>simp
  ·rw [cZ (by rw [gU];omega),oI (by omega)]
   rfl
theorem qL(s:eA):lj s=some (mK s):=by
 unfold lj mK
 cases s with
 |nil=>rfl
 |cons b t=>
  by_cases hl:(b::t).length≤16
  ·rw [c9 (by rw [yD,Bool.or_eq_false_iff,Fe,Fe];simp at hl ⊢;omega),zz,im,nU,im,im]
   have e0:(decide (1≤(b::t).length)&&decide ((b::t).length≤16)&&GH (b::t))=jJ b.toNat:=by
    rw [kG (show 1≤(b::t).length by simp),kG hl];rfl
   rw [e0]
   cases hsm:jJ b.toNat with
   |false=>rfl
   |true=>
    simp only [va,Bool.not_false,nI]
    rw [xL _ (by omega),im,wG,im,im,show((0:Int))=((0:Nat):Int)from rfl,u4 _ (by omega) ip 0 (by unfold ip;omega) (gx _),nG]
    cases za ((b::t).map Gg)<;>simp
  ·rw [cZ (by rw [yD,Bool.or_eq_false_iff,Fe,Fe];omega)]
   rw [lD hl]
   simp

def rK(k:Int):Bool:=k==1||k==2||k==3
theorem wJ(k:Int): ∃r,np k=some r∧(r==([]:eA))= !rK k:=by
 have g0:fm LR ((0:Nat):Int)=some ⟨[98,111,111,108],1⟩:=rfl
 have g1:fm LR ((0+1:Nat):Int)=some ⟨[105,110,116],2⟩:=rfl
 have g2:fm LR ((0+1+1:Nat):Int)=some ⟨[116,101,120,116],3⟩:=rfl
 unfold np
 by_cases h1:k=1
 ·subst h1;exact⟨_,by simp only [fV,g0,im];rfl,rfl⟩
 by_cases h2:k=2
 ·subst h2;exact⟨_,by simp only [fV,g0,g1,im];rfl,rfl⟩
 by_cases h3:k=3
 ·subst h3;exact⟨_,by simp only [fV,g0,g1,g2,im];rfl,rfl⟩
 have n1:((1:Int)==k)=false:=by simpa using Ne.symm h1
 have n2:((2:Int)==k)=false:=by simpa using Ne.symm h2
 have n3:((3:Int)==k)=false:=by simpa using Ne.symm h3
 refine⟨[],?_,?_⟩
 ·simp only [fV,g0,g1,g2,im,n1,n2,n3];rfl
 ·simp [rK,h1,h2,h3]
theorem yP(k:Int): ∃r,qb k=some r∧(r==([]:eA))= !rK k:=by
 unfold qb
 by_cases h1:k=1
 ·subst h1;exact⟨_,rfl,rfl⟩
 by_cases h2:k=2
 ·subst h2;exact⟨_,rfl,rfl⟩
 by_cases h3:k=3
 ·subst h3;exact⟨_,rfl,rfl⟩
 exact⟨[],by simp [h1,h2,h3],by simp [rK,h1,h2,h3]⟩
def AJ(p:List bC)(x:bC):Bool:=p.any fun y=>y.Name==x.Name
def FQ:List bC→List bC→Bool
 |_,[]=>true
 |p,x::t=>(!AJ p x&&mK x.Name)&&FQ (p++[x]) t
def DV:List bC→List bC→Bool
 |_,[]=>true
 |p,x::t=>(mK x.Name&&rK x.Kind&& !AJ p x)&&DV (p++[x]) t
theorem EO: ∀(t p:List bC),DV p t=(FQ p t&&t.all fun x=>rK x.Kind)
 |[],_=>rfl
 |x::t,p=>by
  unfold DV FQ
  rw [EO t (p++[x]),Aa]
  cases AJ p x<;>cases mK x.Name<;>cases rK x.Kind<;>simp
theorem GG(x:bC)(t:List bC): ∀(p:List bC) (i:Nat),∃k:Nat,bQ (dI dK x.Name) (p++x::t) i=some ((i+k:Nat):Int)∧(k !=p.length)=AJ p x
 |[],i=>⟨0,by unfold bQ;simp [dI,dK],rfl⟩
 |y::p,i=>by
  rw [Bq]
  unfold bQ
  rw [show dI dK x.Name y=some (y.Name==x.Name)from rfl,im]
  cases h:(y.Name==x.Name)with
  |true=>exact⟨0,rfl,by unfold AJ;rw [xf,h];rfl⟩
  |false=>
   obtain⟨k,h1,h2⟩:=GG x t p (i+1)
   refine⟨k+1,by rw [cZ (by simp),h1];congr 2;omega,?_⟩
   unfold AJ at h2 ⊢
   rw [xf,h,s5,←h2,CM]
   rw [xg];simp
theorem Nb(x:bC)(p t:List bC): ∃k:Int,fP (p++x::t) dK x.Name=some (k,true)∧(k !=(p.length:Int))=AJ p x:=by
 obtain⟨k,h1,h2⟩:=GG x t p 0
 refine⟨(k:Int),?_,?_⟩
 ·unfold fP d8
  rw [h1,im,sH]
  have e1:max (k:Int) 0=(k:Int):=by omega
  have e2:decide ((0:Int)≤(k:Int))=true:=kG (by omega)
  rw [e1,e2]
 ·rw [←h2,xg];simp;omega
theorem KA: ∀(t p:List bC),ec (p++t) dK t p.length=some (FQ p t)
 |[],p=>rfl
 |x::t,p=>by
  unfold ec
  obtain⟨k,h1,h2⟩:=Nb x p t
  rw [show dK x=some x.Name from rfl,im,h1,im]
  simp only [h2,im,pk]
  unfold FQ
  have ih:=KA t (p++[x])
  rw [vc,List.singleton_append,lJ,List.length_singleton]at ih
  rw [ih]
  cases AJ p x<;>cases mK x.Name<;>simp
theorem Ay(l:List bC):iM l dK=some (FQ [] l):=KA l []
theorem ux(t:bw): ∀(l:List bC) (ok:Bool),eD t l ok=dV t t.Keys 0 (ok&&l.all fun x=>rK x.Kind)
 |[],ok=>by unfold eD;simp
 |x::l,ok=>by
  unfold eD
  obtain⟨r,h1,h2⟩:=wJ x.Kind
  cases ok with
  |false=>
   rw [cZ (by simp),im,ux t l];simp
  |true=>
   rw [c9 rfl,h1,im,im,ux t l,h2,Aa];simp
def KQ(n:Nat):Option Int→List Int→Bool
 |_,[]=>true
 |o,k::t=>(decide (0≤k)&&decide (k<(n:Int))&&(o.all fun j=>decide (j<k)))&&KQ n (some k) t
theorem E4(n:Nat)(o:Option Int)(k:Int)(t:List Int):KQ n o (k::t)=((decide (0≤k)&&decide (k<(n:Int))&&(o.all fun j=>decide (j<k)))&&KQ n (some k) t):=rfl
def zl(l:List Int):Nat→Option Int
 |0=>none
 |i+1=>l[i]?
theorem um{l:List Int}(h:i<l.length):zl l (i+1)=some l[i]:=lK h
theorem B8{l:List Int}(h:i+1≤l.length)(hl:l.length≤100000):fm l (IntKind.i64.wrap (((i+1:Nat):Int)-1))=some l[i]:=by
 rw [show IntKind.i64.wrap (((i+1:Nat):Int)-1)=(i:Int) by rw [xc];omega,iw,lK (by omega)]
theorem Er(t:bw)(hl:t.Keys.length≤100000): ∀(n i:Nat) (ok:Bool),t.Keys.length-i=n→i≤t.Keys.length→dV t (t.Keys.drop i) i ok=some (if ok&&KQ t.Columns.length (zl t.Keys i) (t.Keys.drop i)then 0 else 211)
 |0,i,ok,h,hi=>by
  rw [oI (by omega)]
  unfold dV KQ
  cases ok<;>rfl
 |n+1,i,ok,h,hi=>by
  have hlt:i<t.Keys.length:=by omega
  rw [oJ hlt,E4]
  unfold dV
  have ih:=Er t hl n (i+1)
  rw [um hlt]at ih
  cases ok with
  |false=>
   simp only [Bool.false_and,Bl,s3,im]
   rw [ih false (by omega) (by omega)];simp
  |true=>
   simp only [Bool.true_and]
   by_cases h1:(0:Int)≤t.Keys[i]
   ·by_cases h2:t.Keys[i]<(t.Columns.length:Int)
    ·rw [c9 (by rw [kG h1,kG h2];rfl),kG h1,kG h2]
     cases i with
     |zero=>
      rw [cZ (by simp),im,im,ih true (by omega) (by omega)]
      simp [zl]
     |succ j=>
      rw [c9 (by simp;omega),B8 (by omega) hl,im,im,im,ih _ (by omega) (by omega),um (by omega)]
      simp [Option.all]
    ·rw [cZ (by rw [lD h2];simp),im,ih false (by omega) (by omega),lD h2];simp
   ·rw [cZ (by rw [lD h1];simp),im,ih false (by omega) (by omega),lD h1];simp
theorem BO(t:bw)(hl:t.Keys.length≤100000): ∀(n i:Nat),t.Keys.length<i+n→i≤t.Keys.length→fZ t n (i:Int)=some (KQ t.Columns.length (zl t.Keys i) (t.Keys.drop i))
 |0,i,h,hi=>by omega
 |n+1,i,h,hi=>by
  unfold fZ
  by_cases hlt:i<t.Keys.length
  ·have hw:IntKind.i64.wrap ((i:Int)+1)=((i+1:Nat):Int):=by rw [xc];omega
   have ih:=BO t hl n (i+1) (by omega) (by omega)
   rw [um hlt]at ih
   rw [c9 (by rw [gU];omega),iw,lK hlt,im,hw,ih,oJ hlt,E4]
   by_cases h1:(0:Int)≤t.Keys[i]
   ·by_cases h2:t.Keys[i]<(t.Columns.length:Int)
    ·rw [c9 (by rw [lD (show¬t.Keys[i]<0 by omega),lD (show¬(t.Columns.length:Int)≤t.Keys[i] by omega)];rfl),kG h1,kG h2]
     cases i with
     |zero=>
      rw [cZ (by simp)]
      simp [zl]
     |succ j=>
      rw [c9 (by rw [gU];omega),B8 (by omega) hl,um (show j<t.Keys.length by omega)]
      simp only [im,Option.all,Bool.true_and]
      by_cases h3:t.Keys[j]<t.Keys[j+1]
      ·rw [kG h3,lD (show¬t.Keys[j+1]≤t.Keys[j] by omega)];simp
      ·rw [lD h3,kG (show t.Keys[j+1]≤t.Keys[j] by omega)];simp
    ·rw [cZ (by rw [kG (show(t.Columns.length:Int)≤t.Keys[i] by omega)];simp),lD h2];simp
   ·rw [cZ (by rw [kG (show t.Keys[i]<0 by omega)];simp),lD h1];simp
  ·rw [cZ (by rw [gU];omega),oI (by omega)];rfl
def px(t:bw):Bool:=(mK t.Name&&decide (1≤t.Columns.length)&&decide (t.Columns.length≤4))&&(DV [] t.Columns&&KQ t.Columns.length none t.Keys)
theorem y5(t:bw)(hl:t.Keys.length≤100000):jb t=some (if px t then 0 else 211):=by
 unfold jb px
 rw [pk,im,EO]
 have key:=Er t hl t.Keys.length 0
 rw [nG]at key
 have e1:decide ((1:Int)≤(t.Columns.length:Int))=decide (1≤t.Columns.length):=by rw [decide_eq_decide];omega
 have e2:decide ((t.Columns.length:Int)≤(4:Int))=decide (t.Columns.length≤4):=by rw [decide_eq_decide];omega
 rw [e1,e2]
 cases h:(mK t.Name&&decide (1≤t.Columns.length)&&decide (t.Columns.length≤4))with
 |false=>
  rw [cZ (by simp),im,ux,key _ rfl (gx _)];simp
 |true=>
  rw [c9 rfl,Ay,im,im,ux,key _ rfl (gx _)]
  simp [zl]
theorem zj(t:bw)(nx:Int→Option Bool)(i:Nat)(hi:i<t.Columns.length)(hn:t.Columns.length≤4)(e:bC): ∀(n k:Nat),i<k+n→k≤i→f7 t nx (i:Int) e n (k:Int)=if((t.Columns.take i).drop k).any (fun y=>y.Name==e.Name)then some false else nx ((i+1:Nat):Int)
 |0,k,h,hk=>by omega
 |n+1,k,h,hk=>by
  unfold f7
  by_cases hlt:k<i
  ·have hw:IntKind.i64.wrap ((k:Int)+1)=((k+1:Nat):Int):=by rw [xc];omega
   have hl2:k<(t.Columns.take i).length:=by simp;omega
   rw [c9 (by rw [gU];omega),iw,lK (by omega),im,hw,zj t nx i hi hn e n (k+1) (by omega) (by omega),oJ hl2,xf,List.getElem_take]
   cases (t.Columns[k].Name==e.Name)<;>simp
  ·have hw:IntKind.i64.wrap ((i:Int)+1)=((i+1:Nat):Int):=by rw [xc];omega
   rw [cZ (by rw [gU];omega),hw,oI (by simp;omega)]
   simp
theorem Ej(t:bw)(hn:t.Columns.length≤4)(hl:t.Keys.length≤100000): ∀(n i:Nat),t.Columns.length<i+n→i≤t.Columns.length→fg t n (i:Int)=some (DV (t.Columns.take i) (t.Columns.drop i)&&KQ t.Columns.length none t.Keys)
 |0,i,h,hi=>by omega
 |n+1,i,h,hi=>by
  unfold fg
  by_cases hlt:i<t.Columns.length
  ·obtain⟨r,h1,h2⟩:=yP t.Columns[i].Kind
   have ih:=Ej t hn hl n (i+1) (by omega) (by omega)
   rw [c9 (by rw [gU];omega),iw,lK hlt,im,qL,im,h1,show((0:Int))=((0:Nat):Int)from rfl,zj t _ i hlt hn _ ip 0 (by unfold ip;omega) (gx _),ih,nG,oJ hlt,F7 hlt,show∀p x t,DV p (x::t)=((mK x.Name&&rK x.Kind&& !AJ p x)&&DV (p++[x]) t)from fun _ _ _=>rfl]
   simp only [im,h2]
   show _=some ((mK t.Columns[i].Name&&rK t.Columns[i].Kind&& !((t.Columns.take i).any fun y=>y.Name==t.Columns[i].Name))&&_&&_)
   cases mK t.Columns[i].Name<;>cases rK t.Columns[i].Kind<;>cases ((t.Columns.take i).any fun y=>y.Name==t.Columns[i].Name)<;>simp
  ·rw [cZ (by rw [gU];omega),show((0:Int))=((0:Nat):Int)from rfl,BO t hl ip 0 (by unfold ip;omega) (gx _),oI (show t.Columns.length≤i by omega),nG]
   rfl
theorem y4(t:bw)(hl:t.Keys.length≤100000):j3 t=some (px t):=by
 unfold j3 px
 rw [qL,im]
 by_cases h1:1≤t.Columns.length
 ·by_cases h2:t.Columns.length≤4
  ·rw [lD (show¬(t.Columns.length:Int)<1 by omega),lD (show¬(4:Int)<(t.Columns.length:Int) by omega),kG h1,kG h2,show((0:Int))=((0:Nat):Int)from rfl,Ej t h2 hl ip 0 (by unfold ip;omega) (gx _),List.take_zero,nG]
   cases mK t.Name<;>simp
  ·rw [kG (show(4:Int)<(t.Columns.length:Int) by omega),lD h2];simp
 ·rw [kG (show(t.Columns.length:Int)<1 by omega),lD h1];simp
def AI(p:List bw)(x:bw):Bool:=p.any fun y=>y.Name==x.Name
def C0:List bw→List bw→Bool
 |_,[]=>true
 |p,x::t=>(!AI p x&&mK x.Name)&&C0 (p++[x]) t
def CZ:List bw→List bw→Bool
 |_,[]=>true
 |p,x::t=>(px x&& !AI p x)&&CZ (p++[x]) t
theorem Gk{t:bw}(h:px t=true):mK t.Name=true:=by
 unfold px at h
 simp only [km]at h
 exact h.1.1.1
theorem Ap: ∀(t p:List bw),CZ p t=(t.all px&&C0 p t)
 |[],_=>rfl
 |x::t,p=>by
  unfold CZ C0
  rw [Ap t (p++[x]),Aa]
  cases h:px x with
  |false=>simp
  |true=>
   rw [Gk h]
   cases AI p x<;>simp
theorem GF(x:bw)(t:List bw): ∀(p:List bw) (i:Nat),∃k:Nat,bE (dR dY x.Name) (p++x::t) i=some ((i+k:Nat):Int)∧(k !=p.length)=AI p x
 |[],i=>⟨0,by unfold bE;simp [dR,dY],rfl⟩
 |y::p,i=>by
  rw [Bq]
  unfold bE
  rw [show dR dY x.Name y=some (y.Name==x.Name)from rfl,im]
  cases h:(y.Name==x.Name)with
  |true=>exact⟨0,rfl,by unfold AI;rw [xf,h];rfl⟩
  |false=>
   obtain⟨k,h1,h2⟩:=GF x t p (i+1)
   refine⟨k+1,by rw [cZ (by simp),h1];congr 2;omega,?_⟩
   unfold AI at h2 ⊢
   rw [xf,h,s5,←h2,CM]
   rw [xg];simp
theorem Na(x:bw)(p t:List bw): ∃k:Int,gn (p++x::t) dY x.Name=some (k,true)∧(k !=(p.length:Int))=AI p x:=by
 obtain⟨k,h1,h2⟩:=GF x t p 0
 refine⟨(k:Int),?_,?_⟩
 ·unfold gn cL
  rw [h1,im,sH]
  have e1:max (k:Int) 0=(k:Int):=by omega
  have e2:decide ((0:Int)≤(k:Int))=true:=kG (by omega)
  rw [e1,e2]
 ·rw [←h2,xg];simp;omega
theorem Kz: ∀(t p:List bw),ep (p++t) dY t p.length=some (C0 p t)
 |[],p=>rfl
 |x::t,p=>by
  unfold ep
  obtain⟨k,h1,h2⟩:=Na x p t
  rw [show dY x=some x.Name from rfl,im,h1,im]
  simp only [h2,im,pk]
  unfold C0
  have ih:=Kz t (p++[x])
  rw [vc,List.singleton_append,lJ,List.length_singleton]at ih
  rw [ih]
  cases AI p x<;>cases mK x.Name<;>simp
def vM(c:cY):Prop:= ∀t∈c.Tables,t.Keys.length≤100000
theorem uS: ∀(l:List bw) (i:Nat),(∀t∈l,t.Keys.length≤100000)→ ∃j:Int,bE gS l i=some j∧decide (0≤j)= !l.all px
 |[],i,_=>⟨-1,rfl,rfl⟩
 |x::l,i,h=>by
  unfold bE
  rw [show gS x=some (!px x) by unfold gS;rw [y5 x (h x (gV ..)),im];cases px x<;>rfl,im,Aa]
  cases hx:px x with
  |false=>exact⟨(i:Int),rfl,by simp⟩
  |true=>
   obtain⟨j,h1,h2⟩:=uS l (i+1) fun t ht=>h t (mS _ ht)
   exact⟨j,by simpa using h1,by simpa using h2⟩
def uW(c:cY):Bool:=decide (c.Tables.length≤4)&&CZ [] c.Tables
theorem vE(h:vM c):mA c=some (if uW c then 0 else 210):=by
 unfold mA uW
 obtain⟨j,h1,h2⟩:=uS c.Tables 0 h
 have h3:ja c.Tables dY=some (C0 [] c.Tables):=Kz c.Tables []
 rw [Ap]
 by_cases hl:c.Tables.length≤4
 ·rw [lD (show¬(4:Int)<(c.Tables.length:Int) by omega),kG hl]
  unfold d3 cL
  rw [h1,h3]
  simp only [Bool.not_false,nI,im,h2]
  cases c.Tables.all px<;>cases C0 [] c.Tables<;>rfl
 ·rw [kG (show(4:Int)<(c.Tables.length:Int) by omega),lD hl];rfl
theorem zi(c:cY)(nx:Int→Option Bool)(i:Nat)(hi:i<c.Tables.length)(hn:c.Tables.length≤4)(e:bw): ∀(n k:Nat),i<k+n→k≤i→jL c nx (i:Int) e n (k:Int)=if((c.Tables.take i).drop k).any (fun y=>y.Name==e.Name)then some false else nx ((i+1:Nat):Int)
 |0,k,h,hk=>by omega
 |n+1,k,h,hk=>by
  unfold jL
  by_cases hlt:k<i
  ·have hw:IntKind.i64.wrap ((k:Int)+1)=((k+1:Nat):Int):=by rw [xc];omega
   have hl2:k<(c.Tables.take i).length:=by simp;omega
   rw [c9 (by rw [gU];omega),iw,lK (by omega),im,hw,zi c nx i hi hn e n (k+1) (by omega) (by omega),oJ hl2,xf,List.getElem_take]
   cases (c.Tables[k].Name==e.Name)<;>simp
  ·have hw:IntKind.i64.wrap ((i:Int)+1)=((i+1:Nat):Int):=by rw [xc];omega
   rw [cZ (by rw [gU];omega),hw,oI (by simp;omega)]
   simp
theorem Eh(c:cY)(hn:c.Tables.length≤4)(hc:vM c): ∀(n i:Nat),c.Tables.length<i+n→i≤c.Tables.length→iG c n (i:Int)=some (CZ (c.Tables.take i) (c.Tables.drop i))
 |0,i,h,hi=>by omega
 |n+1,i,h,hi=>by
  unfold iG
  by_cases hlt:i<c.Tables.length
  ·have ih:=Eh c hn hc n (i+1) (by omega) (by omega)
   rw [c9 (by rw [gU];omega),iw,lK hlt,im,y4 _ (hc _ (Br hlt)),im,show((0:Int))=((0:Nat):Int)from rfl,zi c _ i hlt hn _ ip 0 (by unfold ip;omega) (gx _),ih,nG,oJ hlt,F7 hlt,show∀p x t,CZ p (x::t)=((px x&& !AI p x)&&CZ (p++[x]) t)from fun _ _ _=>rfl]
   show _=some ((px c.Tables[i]&& !((c.Tables.take i).any fun y=>y.Name==c.Tables[i].Name))&&_)
   cases px c.Tables[i]<;>cases ((c.Tables.take i).any fun y=>y.Name==c.Tables[i].Name)<;>simp
  ·rw [cZ (by rw [gU];omega),oI (show c.Tables.length≤i by omega)]
   rfl
theorem ru(h:vM c):mG c=some (uW c):=by
 unfold mG uW
 by_cases hl:c.Tables.length≤4
 ·rw [cZ (by rw [gU];omega),show((0:Int))=((0:Nat):Int)from rfl,Eh c hl h ip 0 (by unfold ip;omega) (gx _),kG hl]
  rfl
 ·rw [c9 (by rw [gU];omega),lD hl];rfl

def yY:List M→List Int→Bool
 |v::t,k::ks=>(tt v&&(v.Kind==0||v.Kind==k))&&yY t ks
 |[],_=>true
 |_::_,[]=>false
def DB(kinds:List Int)(r:EZ):Bool:=decide (r.length=kinds.length)&&yY r kinds
def o0(rows:List EZ)(kinds:List Int):Bool:=decide (rows.length≤12)&&rows.all (DB kinds)
theorem yc(kinds:List Int)(nx:Option Bool)(r:EZ)(hl:r.length=kinds.length): ∀(n i:Nat),r.length-i=n→i≤r.length→iJ kinds nx (r.drop i) i=if yY (r.drop i) (kinds.drop i)then nx else some false
 |0,i,h,hi=>by
  rw [oI (by omega)]
  unfold iJ yY
  rfl
 |n+1,i,h,hi=>by
  have hlt:i<r.length:=by omega
  have hlk:i<kinds.length:=by omega
  rw [oJ hlt,oJ hlk]
  unfold iJ yY
  rw [yc kinds nx r hl n (i+1) (by omega) (by omega),xn,im,iw,lK hlk]
  simp only [im]
  have e:(r[i].Kind==0)= !(r[i].Kind !=0):=by rw [bne,Bool.not_not]
  have e2:(r[i].Kind==kinds[i])= !(r[i].Kind !=kinds[i]):=by rw [bne,Bool.not_not]
  rw [e,e2]
  cases tt r[i]<;>cases (r[i].Kind !=0)<;>cases (r[i].Kind !=kinds[i])<;>simp
theorem Ii(a b:Nat):((a:Int) !=(b:Int))= !decide (a=b):=by
 rw [xg];simp;omega
theorem yd(kinds:List Int): ∀rows:List EZ,iK kinds rows=some (rows.all (DB kinds))
 |[]=>rfl
 |r::t=>by
  unfold iK
  rw [Ii,Aa,DB,yd kinds t]
  by_cases h:r.length=kinds.length
  ·have:=yc kinds (some (t.all (DB kinds))) r h r.length 0 rfl (gx _)
   rw [nG,nG]at this
   rw [kG h,this]
   cases yY r kinds<;>simp
  ·rw [lD h];simp
theorem yl(rows:List EZ)(kinds:List Int):mN rows kinds=some (o0 rows kinds):=by
 unfold mN o0
 rw [yd]
 by_cases h:rows.length≤12
 ·rw [cZ (by rw [gU];omega),kG h];rfl
 ·rw [c9 (by rw [gU];omega),lD h];rfl
theorem xE(kinds:List Int)(nx:Option Bool)(r:EZ)(hl:r.length=kinds.length): ∀(n i:Nat),r.length-i=n→i≤r.length→jn nx r (kinds.drop i) i=if yY (r.drop i) (kinds.drop i)then nx else some false
 |0,i,h,hi=>by
  rw [oI (show kinds.length≤i by omega),oI (show r.length≤i by omega)]
  unfold jn yY
  rfl
 |n+1,i,h,hi=>by
  have hlt:i<r.length:=by omega
  have hlk:i<kinds.length:=by omega
  rw [oJ hlt,oJ hlk]
  unfold jn yY
  rw [xE kinds nx r hl n (i+1) (by omega) (by omega),iw,lK hlt,im,xM,im]
  have e:(r[i].Kind==0)= !(r[i].Kind !=0):=by rw [bne,Bool.not_not]
  have e2:(r[i].Kind==kinds[i])= !(r[i].Kind !=kinds[i]):=by rw [bne,Bool.not_not]
  rw [e,e2]
  cases tt r[i]<;>cases (r[i].Kind !=0)<;>cases (r[i].Kind !=kinds[i])<;>simp
theorem xF(kinds:List Int): ∀rows:List EZ,jo kinds rows=some (rows.all (DB kinds))
 |[]=>rfl
 |r::t=>by
  unfold jo
  rw [Ii,Aa,DB,xF kinds t]
  by_cases h:r.length=kinds.length
  ·have:=xE kinds (some (t.all (DB kinds))) r h r.length 0 rfl (gx _)
   rw [nG,nG]at this
   rw [kG h,this]
   cases yY r kinds<;>simp
  ·rw [lD h];simp
theorem yO(rows:List EZ)(kinds:List Int):qa rows kinds=some (o0 rows kinds):=by
 unfold qa o0
 rw [xF]
 by_cases h:rows.length≤12
 ·rw [cZ (by rw [gU];omega),kG h];rfl
 ·rw [c9 (by rw [gU];omega),lD h];rfl
def sn(t:bw):List Int:=t.Columns.map fun x=>x.Kind
def zK:List bw→List (List EZ)→Bool
 |t::ts,r::rs=>o0 r (sn t)&&zK ts rs
 |_,_=>true
theorem A6(h:uW c=true): ∀t∈c.Tables,px t=true:=by
 unfold uW at h
 rw [Ap]at h
 simp only [km,gU]at h
 exact kH.1 h.2.1
theorem EV(h:uW c=true):c.Tables.length≤4:=by
 unfold uW at h
 simp only [km,gU]at h
 exact h.1
theorem xr{t:bw}(h:px t=true):t.Columns.length≤4:=by
 unfold px at h
 simp only [km,gU]at h
 exact h.1.2
theorem qU(b:eU)(nx:Nat→Option Int)(i:Nat)(hi:i<b.Tables.length): ∀(l:List bC) (ks:List Int),ks.length+l.length≤1000→fh b nx i l ks=if o0 b.Tables[i] (ks++l.map fun x=>x.Kind)then nx (i+1)else some 250
 |[],ks,h=>by
  unfold fh
  rw [iw,lK hi,im,yl,im,List.map_nil,List.append_nil]
  cases o0 b.Tables[i] ks<;>rfl
 |x::l,ks,h=>by
  unfold fh
  rw [CM]at h
  rw [A9 (by simp;omega),im,qU b nx i hi l (ks++[x.Kind]) (by simp;omega),wu,vc]
  rfl
theorem qV(b:eU)(ts:List bw)(hts: ∀t∈ts,t.Columns.length≤4)(hb:b.Tables.length=ts.length): ∀(n i:Nat),ts.length-i=n→i≤ts.length→ez b (ts.drop i) i=some (if zK (ts.drop i) (b.Tables.drop i)then 0 else 250)
 |0,i,h,hi=>by
  rw [oI (by omega)]
  unfold ez zK
  rfl
 |n+1,i,h,hi=>by
  have hlt:i<ts.length:=by omega
  have hlb:i<b.Tables.length:=by omega
  rw [oJ hlt,oJ hlb]
  unfold ez zK
  have hcl:=hts _ (Br hlt)
  rw [qU b _ i hlb _ [] (by simp;omega),ww,qV b ts hts hb n (i+1) (by omega) (by omega)]
  show(if o0 b.Tables[i] (sn ts[i])then _ else _)=_
  cases o0 b.Tables[i] (sn ts[i])<;>simp
def BN(c:cY)(b:eU):Bool:=decide (b.Tables.length=c.Tables.length)&&zK c.Tables b.Tables
def HF(c:cY)(b:eU):Bool:=uW c&&BN c b
theorem Bi(h:vM c)(b:eU):kb c b=some (if uW c then(if BN c b then 0 else 250)else 210):=by
 unfold kb
 rw [vE h,im]
 cases hc:uW c with
 |false=>rfl
 |true=>
  simp only [nI,Ii]
  unfold BN
  by_cases hl:b.Tables.length=c.Tables.length
  ·have:=qV b c.Tables (fun t ht=>xr (A6 hc t ht)) hl c.Tables.length 0 rfl (gx _)
   rw [nG,nG]at this
   rw [kG hl,this]
   simp
  ·rw [lD hl];simp
theorem qR(c:cY)(b:eU)(nx:Int→Option Bool)(i:Nat)(hc:i<c.Tables.length)(hb:i<b.Tables.length)(hi:i≤1000)(hcl:(c.Tables[i]).Columns.length≤4): ∀(n k:Nat) (ks:List Int),(c.Tables[i]).Columns.length<k+n→k≤(c.Tables[i]).Columns.length→ks.length≤k→
  gF c b nx (i:Int) n ks (k:Int)=if o0 b.Tables[i] (ks++((c.Tables[i]).Columns.drop k).map fun x=>x.Kind)then nx ((i+1:Nat):Int)else some false
 |0,k,ks,h,h2,h3=>by omega
 |n+1,k,ks,h,h2,h3=>by
  unfold gF
  rw [iw,lK hc,im]
  by_cases hlt:k<(c.Tables[i]).Columns.length
  ·have hw:IntKind.i64.wrap ((k:Int)+1)=((k+1:Nat):Int):=by rw [xc];omega
   rw [c9 (by rw [gU];omega),iw,lK hlt,im,A9 (by simp;omega),im,hw,qR c b nx i hc hb hi hcl n (k+1) _ (by omega) (by omega) (by simp;omega),oJ hlt,wu,vc]
   rfl
  ·have hw:IntKind.i64.wrap ((i:Int)+1)=((i+1:Nat):Int):=by rw [xc];omega
   rw [cZ (by rw [gU];omega),iw,lK hb,im,yO,im,hw,oI (show(c.Tables[i]).Columns.length≤k by omega),List.map_nil,List.append_nil]
   cases o0 b.Tables[i] ks<;>rfl
theorem qS(c:cY)(b:eU)(hcat:uW c=true)(hb:b.Tables.length=c.Tables.length): ∀(n i:Nat),c.Tables.length<i+n→i≤c.Tables.length→fz c b n (i:Int)=some (zK (c.Tables.drop i) (b.Tables.drop i))
 |0,i,h,hi=>by omega
 |n+1,i,h,hi=>by
  unfold fz
  have hn:=EV hcat
  by_cases hlt:i<c.Tables.length
  ·have hlb:i<b.Tables.length:=by omega
   rw [c9 (by rw [gU];omega),show((0:Int))=((0:Nat):Int)from rfl,qR c b _ i hlt hlb (by omega) (xr (A6 hcat _ (Br hlt))) ip 0 [] (by have:=xr (A6 hcat _ (Br hlt));unfold ip;omega) (gx _) (gx _),qS c b hcat hb n (i+1) (by omega) (by omega),oJ hlt,oJ hlb,ww,nG]
   show(if o0 b.Tables[i] (sn c.Tables[i])then _ else _)=some (o0 b.Tables[i] (sn c.Tables[i])&&_)
   cases o0 b.Tables[i] (sn c.Tables[i])<;>simp
  ·rw [cZ (by rw [gU];omega),oI (show c.Tables.length≤i by omega)]
   rfl
theorem Bd(h:vM c)(b:eU):kC c b=some (HF c b):=by
 unfold kC HF BN
 rw [ru h,im,Ii]
 cases hc:uW c with
 |false=>rfl
 |true=>
  by_cases hl:b.Tables.length=c.Tables.length
  ·have:=qS c b hc hl ip 0 (by have:=EV hc;unfold ip;omega) (gx _)
   rw [nG,nG]at this
   rw [kG hl,show((0:Int))=((0:Nat):Int)from rfl,this]
   simp
  ·rw [lD hl];simp
end Go.Proofs.YtfhhakidodmdfaaGreatDoor

