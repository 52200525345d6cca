/- cH of this claim: K1, K2, K3, K4, Q1, Q2. -/
import Derived.Test.YthbdkceckjihgaaGreatDoorBaF
import Derived.KernelRfl
import Derived.Test.YthbdkceckjihgaaGreatDoorBaV4
import Derived.Laws.RangeAny
import Derived.Shelf.Strings.CaseAny
set_option linter.all false
namespace Go.Proofs.YthbdkceckjihgaaGreatDoor
open Go

abbrev Row:=List dl
def Io{α:Type}{xs ys:List α}(h:xs.length+ys.length<=68719476736):mM xs ys=some (xs++ys):=fE h

structure Cmp{α:Type}(f:α->α->Int):Prop where
 rng: ∀x y,f x y= -1\/f x y=0\/f x y=1
 anti: ∀x y,f y x= -f x y
 eq: ∀x y,f x y=0↔x=y
 trans: ∀x y z,f x y<=0->f y z<=0->f x z<=0
def key(v:dl):Int×Int×Int×dN:=(v.Kind,v.N,v.U,v.S)

section
variable{α:Type}{f:α->α->Int}
def ltB(f:α->α->Int)(x y:α):Bool:=decide (f x y<0)
def M3(f:α->α->Int)(l:List α):List α:=KD (ltB f) l
def put(f:α->α->Int)(x:α):List α->List α
 |[]=>[x]
 |y::l=>if f x y<0 then x::y::l else y::put f x l
end

structure Small(l:List Row):Prop where
 len:l.length<=8000
 row: ∀r∈l,r.length<=1000
def Mz{n:Int}(h: -9223372036854775808<=n)(J:n<=9223372036854775807):IntKind.i64.wrap n=n:=by rw [yG];omega

def js(n:Nat):Bool:=decide (97<=n)&&decide (n<=122)
def p3(n:Nat):Bool:=decide (48<=n)&&decide (n<=57)
def Ms(n:Nat):Bool:=js n||p3 n||n==95
def I0(b:UInt8):Bool:=Ms b.toNat
def pG(n:Nat):pj (n:Int)=some (js n):=by
 unfold pj js
 congr 2<;>(rw [Ab];omega)
def ul(n:Nat):rD (n:Int)=some (p3 n):=by
 unfold rD p3
 congr 2<;>(rw [Ab];omega)
def nH(n:Nat):mu (n:Int)=some (js n):=pG n
def xL(n:Nat):qN (n:Int)=some (p3 n):=ul n
def Du{n:Nat}(h:Ms n=true):n<128:=by
 unfold Ms js p3 at h
 simp only [xf,lG,py,beq_iff_eq]at h
 omega
def Ij(n:Nat):((n:Int) !=(95:Int))= !(n==95):=by
 rw [bne,y3]
 simp only [Ad,beq_eq_false_iff_ne,ne_eq]
 omega
variable{i:Nat}
def Ia{s:dN}(h:i<s.length)(D:(s[i]).toNat<128):nl s i=((s[i]).toNat,1):=
 decode_ascii ⟨s.toArray⟩ i (show i<(ByteArray.mk s.toArray).size from h) D
def Gp{s:dN}(h:i<s.length)(D: ¬(s[i]).toNat<128):128<=(nl s i).1:=
 (decode_high ⟨s.toArray⟩ i (show i<(ByteArray.mk s.toArray).size from h) (show 128<=(s[i]).toNat by omega)).1
def BQ(s:dN): ∀(f i:Nat),s.length<i+f->kr (nF s f i)=some ((s.drop i).all I0)
 |0,i,h=>by
  rw [se (by omega)];rfl
 |f+1,i,h=>by
  unfold nF
  by_cases hi:i<s.length
  ·rw [fE hi]
   unfold kr
   simp only [ul,pG,eC,Ij]
   rw [uW hi,xe]
   by_cases D:(s[i]).toNat<128
   ·rw [Ia hi D]
    simp only []
    have ih:=BQ s f (i+1) (by omega)
    have e:I0 s[i]=(js (s[i]).toNat||p3 (s[i]).toNat||(s[i]).toNat==95):=rfl
    rw [e]
    cases H:p3 (s[i]).toNat<;>cases J:js (s[i]).toNat<;>cases h3:((s[i]).toNat==95)<;>simp [ih]
   ·have hh:=Gp hi D
    have e:I0 s[i]=false:=by
     cases ho:I0 s[i]with
     |false=>rfl
     |true=>exact absurd (Du ho) D
    have e2:Ms (nl s i).1=false:=by
     cases ho:Ms (nl s i).1 with
     |false=>rfl
     |true=>have:=Du ho;omega
    rw [e,Bool.false_and]
    unfold Ms at e2
    simp only [Ei]at e2
    obtain⟨⟨J,H⟩,h3⟩:=e2
    simp [H,J,h3]
  ·rw [cS hi,se (by omega)];rfl
def y6(s:dN):Bool:=Nc.any fun w=>w==s
def CA(v:dN): ∀(l:List dN) (i:Nat),∃j:Int,dF v l i=some j/\decide (0<=j)=l.any fun w=>w==v
 |[],i=>⟨-1,rfl,rfl⟩
 |e::l,i=>by
  unfold dF
  by_cases h:v=e
  ·subst h
   exact⟨(i:Int),by simp,by simp⟩
  ·obtain⟨j,H,J⟩:=CA v l (i+1)
   exact⟨j,by simp [h,H],by simp [J,Ne.symm h]⟩
def sA(s:dN):pH s=some (y6 s):=by
 unfold pH ez eY
 obtain⟨j,H,J⟩:=CA s Nc 0
 rw [H]
 simp only [eC,J]
 rfl
def HA(s:dN): ∀l:List dN,k6 s l=some (l.any fun w=>w==s)
 |[]=>rfl
 |e::l=>by
  unfold k6
  rw [HA s l,wu]
  cases (e==s)<;>rfl
def wI(s:dN):nc s=some (y6 s):=by
 unfold nc qO vi
 rw [eC,HA]
 rfl
def GY(b:UInt8):UInt8:=UInt8.ofNat (if js b.toNat then b.toNat-32 else b.toNat)
def FA: ∀b:UInt8,GY b=Lib.upperB b:=by
 intro b
 have key: ∀i:Fin 256,GY (UInt8.ofNat i.val)=Lib.upperB (UInt8.ofNat i.val):=by decide+kernel
 have:=key ⟨b.toNat,b.toNat_lt⟩
 simpa using this
def tS(a b:List Int):m5 (a++b)=m5 a++m5 b:=by simp [m5]
def re(s:dN)(hs:s.length<=1000): ∀(n i:Nat) (out:List Int),s.length<i+n->out.length<=i->i<=s.length->gA s n out (i:Int)=some (m5 out++(s.drop i).map GY)
 |0,i,out,h,_,J=>by omega
 |n+1,i,out,h,H,J=>by
  unfold gA
  by_cases hi:i<s.length
  ·rw [fE (by rw [py];omega)]
   have e:sj s (i:Int)=some ((s[i]).toNat:Int):=by
    unfold sj
    rw [la,nw hi];rfl
   have hw:IntKind.i64.wrap ((i:Int)+1)=((i+1:Nat):Int):=by rw [yG];omega
   rw [e,eC,nH,eC,uW hi,tz]
   have hlt:=(s[i]).toNat_lt
   cases hsm:js (s[i]).toNat with
   |true=>
    have h97:97<=(s[i]).toNat/\(s[i]).toNat<=122:=by simpa [js] using hsm
    have hc:IntKind.u8.wrap (IntKind.u8.wrap (((s[i]).toNat:Int)-97)+65)=(((s[i]).toNat-32:Nat):Int):=by
     rw [IntKind.wrap_u8,IntKind.wrap_u8];omega
    rw [fE rfl,hc]
    unfold jw
    rw [Io (by simp;omega),eC,hw,re s hs n (i+1) _ (by omega) (by simp;omega) (by omega),tS,sa]
    congr 2
    show m5 [_]++_=_
    simp only [m5,tz,List.map_nil,Bs,yF]
    congr 1
    simp [GY,hsm]
   |false=>
    rw [cS (by simp)]
    unfold jw
    rw [Io (by simp;omega),eC,hw,re s hs n (i+1) _ (by omega) (by simp;omega) (by omega),tS,sa]
    congr 2
    show m5 [_]++_=_
    simp only [m5,tz,List.map_nil,Bs,yF]
    congr 1
    simp [GY,hsm]
  ·rw [cS (by rw [py];omega),se (by omega)]
   simp
def xM(s:dN)(hs:s.length<=1000):oz s=some (s.map GY):=by
 unfold oz
 rw [show((0:Int))=((0:Nat):Int)from rfl,re s hs kw 0 [] (by unfold kw;omega) (gP _) (iM _)]
 rfl
def yY(s:dN)(hs:s.length<=1000)(ha: ∀b∈s,I0 b=true):f6 s=some (s.map GY):=by
 unfold f6
 rw [fE (by omega),Lib.toUpperD_ascii s (fun b D=>Du (ha b D))]
 unfold Lib.toUpperA
 rw [show GY=Lib.upperB from funext FA]
def Hz:dN->Bool
 |[]=>false
 |b::_=>js b.toNat
def mz(s:dN):Bool:=(decide (1<=s.length)&&decide (s.length<=16)&&Hz s)&&(!y6 (s.map GY)&&s.all I0)
def zB{b:UInt8}{t:dN}:sj (b::t) (0:Int)=some (b.toNat:Int):=by unfold sj;rfl
def o4(s:dN):gC s=some (mz s):=by
 unfold gC mz
 cases s with
 |nil=>rfl
 |cons b t=>
  by_cases hl:(b::t).length<=16
  ·rw [fE (by rw [show((b::t)==([]:dN))=false from rfl,qt,Ad,CR];omega),zB,eC]
   have D:=b.toNat_lt
   rw [show IntKind.i32.wrap (b.toNat:Int)=(b.toNat:Int) by rw [IntKind.wrap_i32];omega,pG,eC,eC]
   have e0:(decide (1<=(b::t).length)&&decide ((b::t).length<=16)&&Hz (b::t))=js b.toNat:=by
    rw [mN (show 1<=(b::t).length by simp),mN hl];rfl
   rw [e0]
   cases hsm:js b.toNat with
   |false=>rfl
   |true=>
    have hr:=BQ (b::t) ((b::t).length+1) 0 (by omega)
    rw [r0]at hr
    have hT:f6 (b::t)=some (Lib.toUpperD (b::t)):=by unfold f6;rw [fE (by omega)]
    simp only [sI,Bool.not_false,qw]
    cases ha:(b::t).all I0 with
    |true=>
     rw [yY (b::t) (by omega) (fun c hc=>kU.1 ha c hc),eC,sA,eC,eC]
     unfold BR
     rw [hr,ha]
     cases y6 ((b::t).map GY)<;>rfl
    |false=>
     rw [hT,eC,sA,eC,eC]
     unfold BR
     rw [hr,ha]
     cases y6 (Lib.toUpperD (b::t))<;>simp
  ·rw [cS (by rw [show((b::t)==([]:dN))=false from rfl,qt,Ad,CR,Classical.not_not];omega)]
   rw [ol hl]
   simp
def uR(s:dN)(hs:s.length<=1000): ∀(n i:Nat),s.length<i+n->i<=s.length->i0 s n (i:Int)=some ((s.drop i).all I0)
 |0,i,h,J=>by omega
 |n+1,i,h,J=>by
  unfold i0
  by_cases hi:i<s.length
  ·rw [fE (by rw [py];omega)]
   have e:sj s (i:Int)=some ((s[i]).toNat:Int):=by
    unfold sj
    rw [la,nw hi];rfl
   have hw:IntKind.i64.wrap ((i:Int)+1)=((i+1:Nat):Int):=by rw [yG];omega
   simp only [e,eC,nH,xL,Ij,hw]
   rw [uR s hs n (i+1) (by omega) (by omega),uW hi,xe]
   have e2:I0 s[i]=(js (s[i]).toNat||p3 (s[i]).toNat||(s[i]).toNat==95):=rfl
   rw [e2]
   cases H:p3 (s[i]).toNat<;>cases J:js (s[i]).toNat<;>cases h3:((s[i]).toNat==95)<;>simp
  ·rw [cS (by rw [py];omega),se (by omega)]
   rfl
def qi(s:dN):k7 s=some (mz s):=by
 unfold k7 mz
 cases s with
 |nil=>rfl
 |cons b t=>
  by_cases hl:(b::t).length<=16
  ·rw [fE (by rw [Ad,Ei,CR,CR];simp at hl ⊢;omega),zB,eC,nH,eC,eC]
   have e0:(decide (1<=(b::t).length)&&decide ((b::t).length<=16)&&Hz (b::t))=js b.toNat:=by
    rw [mN (show 1<=(b::t).length by simp),mN hl];rfl
   rw [e0]
   cases hsm:js b.toNat with
   |false=>rfl
   |true=>
    simp only [sI,Bool.not_false,qw]
    rw [xM _ (by omega),eC,wI,eC,eC,show((0:Int))=((0:Nat):Int)from rfl,uR _ (by omega) kw 0 (by unfold kw;omega) (iM _),r0]
    cases y6 ((b::t).map GY)<;>simp
  ·rw [cS (by rw [Ad,Ei,CR,CR];omega)]
   rw [ol hl]
   simp

def qT(k:Int):Bool:=k==1||k==2||k==3
def wO(k:Int): ∃r,nm k=some r/\(r==([]:dN))= !qT k:=by
 have g0:gI Lx ((0:Nat):Int)=some ⟨[98,111,111,108],1⟩:=rfl
 have g1:gI Lx ((0+1:Nat):Int)=some ⟨[105,110,116],2⟩:=rfl
 have g2:gI Lx ((0+1+1:Nat):Int)=some ⟨[116,101,120,116],3⟩:=rfl
 unfold nm
 by_cases H:k=1
 ·subst H;exact⟨_,by simp only [ga,g0,eC];rfl,rfl⟩
 by_cases J:k=2
 ·subst J;exact⟨_,by simp only [ga,g0,g1,eC];rfl,rfl⟩
 by_cases h3:k=3
 ·subst h3;exact⟨_,by simp only [ga,g0,g1,g2,eC];rfl,rfl⟩
 have n1:((1:Int)==k)=false:=by simpa using Ne.symm H
 have n2:((2:Int)==k)=false:=by simpa using Ne.symm J
 have n3:((3:Int)==k)=false:=by simpa using Ne.symm h3
 refine⟨[],?_,?_⟩
 ·simp only [ga,g0,g1,g2,eC,n1,n2,n3];rfl
 ·simp [qT,H,J,h3]
def yO(k:Int): ∃r,pE k=some r/\(r==([]:dN))= !qT k:=by
 unfold pE
 by_cases H:k=1
 ·subst H;exact⟨_,rfl,rfl⟩
 by_cases J:k=2
 ·subst J;exact⟨_,rfl,rfl⟩
 by_cases h3:k=3
 ·subst h3;exact⟨_,rfl,rfl⟩
 exact⟨[],by simp [H,J,h3],by simp [qT,H,J,h3]⟩
def AO(p:List bw)(x:bw):Bool:=p.any fun y=>y.Name==x.Name
def Gr:List bw->List bw->Bool
 |_,[]=>true
 |p,x::t=>(!AO p x&&mz x.Name)&&Gr (p++[x]) t
def D2:List bw->List bw->Bool
 |_,[]=>true
 |p,x::t=>(mz x.Name&&qT x.Kind&& !AO p x)&&D2 (p++[x]) t
def Ff: ∀(t p:List bw),D2 p t=(Gr p t&&t.all fun x=>qT x.Kind)
 |[],_=>rfl
 |x::t,p=>by
  unfold D2 Gr
  rw [Ff t (p++[x]),xe]
  cases AO p x<;>cases mz x.Name<;>cases qT x.Kind<;>simp
def Hy(x:bw)(t:List bw): ∀(p:List bw) (i:Nat),∃k:Nat,bY (dG dL x.Name) (p++x::t) i=some ((i+k:Nat):Int)/\(k !=p.length)=AO p x
 |[],i=>⟨0,by unfold bY;simp [dG,dL],rfl⟩
 |y::p,i=>by
  rw [Bs]
  unfold bY
  rw [show dG dL x.Name y=some (y.Name==x.Name)from rfl,eC]
  cases h:(y.Name==x.Name)with
  |true=>exact⟨0,rfl,by unfold AO;rw [wu,h];rfl⟩
  |false=>
   obtain⟨k,H,J⟩:=Hy x t p (i+1)
   refine⟨k+1,by rw [cS (by simp),H];congr 2;omega,?_⟩
   unfold AO at J ⊢
   rw [wu,h,qt,<-J,Aa]
   rw [y3];simp
def Nm(x:bw)(p t:List bw): ∃k:Int,fU (p++x::t) dL x.Name=some (k,true)/\(k !=(p.length:Int))=AO p x:=by
 obtain⟨k,H,J⟩:=Hy x t p 0
 refine⟨(k:Int),?_,?_⟩
 ·unfold fU d9
  rw [H,eC,qr]
  have e1:max (k:Int) 0=(k:Int):=by omega
  have e2:decide ((0:Int)<=(k:Int))=true:=mN (by omega)
  rw [e1,e2]
 ·rw [<-J,y3];simp;omega
def KB: ∀(t p:List bw),ef (p++t) dL t p.length=some (Gr p t)
 |[],p=>rfl
 |x::t,p=>by
  unfold ef
  obtain⟨k,H,J⟩:=Nm x p t
  rw [show dL x=some x.Name from rfl,eC,H,eC]
  simp only [J,eC,o4]
  unfold Gr
  have ih:=KB t (p++[x])
  rw [sa,CQ,j6,CP]at ih
  rw [ih]
  cases AO p x<;>cases mz x.Name<;>simp
def AG(l:List bw):iE l dL=some (Gr [] l):=KB l []
def un(t:bv): ∀(l:List bw) (ok:Bool),eB t l ok=dW t t.Keys 0 (ok&&l.all fun x=>qT x.Kind)
 |[],ok=>by unfold eB;simp
 |x::l,ok=>by
  unfold eB
  obtain⟨r,H,J⟩:=wO x.Kind
  cases ok with
  |false=>
   rw [cS (by simp),eC,un t l];simp
  |true=>
   rw [fE rfl,H,eC,eC,un t l,J,xe];simp
def KQ(n:Nat):Option Int->List Int->Bool
 |_,[]=>true
 |o,k::t=>(decide (0<=k)&&decide (k<(n:Int))&&(o.all fun j=>decide (j<k)))&&KQ n (some k) t
def Fs(n:Nat)(o:Option Int)(k:Int)(t:List Int):KQ n o (k::t)=((decide (0<=k)&&decide (k<(n:Int))&&(o.all fun j=>decide (j<k)))&&KQ n (some k) t):=rfl
def zj(l:List Int):Nat->Option Int
 |0=>none
 |i+1=>l[i]?
def uh{l:List Int}(h:i<l.length):zj l (i+1)=some l[i]:=nw h
def Cb{l:List Int}(h:i+1<=l.length)(hl:l.length<=100000):gI l (IntKind.i64.wrap (((i+1:Nat):Int)-1))=some l[i]:=by
 rw [show IntKind.i64.wrap (((i+1:Nat):Int)-1)=(i:Int) by rw [yG];omega,la,nw (by omega)]
def EP(t:bv)(hl:t.Keys.length<=100000): ∀(n i:Nat) (ok:Bool),t.Keys.length-i=n->i<=t.Keys.length->dW t (t.Keys.drop i) i ok=some (if ok&&KQ t.Columns.length (zj t.Keys i) (t.Keys.drop i)then 0 else 211)
 |0,i,ok,h,hi=>by
  rw [se (by omega)]
  unfold dW KQ
  cases ok<;>rfl
 |n+1,i,ok,h,hi=>by
  have hlt:i<t.Keys.length:=by omega
  rw [uW hlt,Fs]
  unfold dW
  have ih:=EP t hl n (i+1)
  rw [uh hlt]at ih
  cases ok with
  |false=>
   simp only [Bool.false_and,sb,nu,eC]
   rw [ih false (by omega) (by omega)];simp
  |true=>
   simp only [Bool.true_and]
   by_cases H:(0:Int)<=t.Keys[i]
   ·by_cases J:t.Keys[i]<(t.Columns.length:Int)
    ·rw [fE (by rw [mN H,mN J];rfl),mN H,mN J]
     cases i with
     |zero=>
      rw [cS (by simp),eC,eC,ih true (by omega) (by omega)]
      simp [zj]
     |succ j=>
      rw [fE (by simp;omega),Cb (by omega) hl,eC,eC,eC,ih _ (by omega) (by omega),uh (by omega)]
      simp [Option.all]
    ·rw [cS (by rw [ol J];simp),eC,ih false (by omega) (by omega),ol J];simp
   ·rw [cS (by rw [ol H];simp),eC,ih false (by omega) (by omega),ol H];simp
def BU(t:bv)(hl:t.Keys.length<=100000): ∀(n i:Nat),t.Keys.length<i+n->i<=t.Keys.length->ge t n (i:Int)=some (KQ t.Columns.length (zj t.Keys i) (t.Keys.drop i))
 |0,i,h,hi=>by omega
 |n+1,i,h,hi=>by
  unfold ge
  by_cases hlt:i<t.Keys.length
  ·have hw:IntKind.i64.wrap ((i:Int)+1)=((i+1:Nat):Int):=by rw [yG];omega
   have ih:=BU t hl n (i+1) (by omega) (by omega)
   rw [uh hlt]at ih
   rw [fE (by rw [py];omega),la,nw hlt,eC,hw,ih,uW hlt,Fs]
   by_cases H:(0:Int)<=t.Keys[i]
   ·by_cases J:t.Keys[i]<(t.Columns.length:Int)
    ·rw [fE (by rw [ol (show¬t.Keys[i]<0 by omega),ol (show¬(t.Columns.length:Int)<=t.Keys[i] by omega)];rfl),mN H,mN J]
     cases i with
     |zero=>
      rw [cS (by simp)]
      simp [zj]
     |succ j=>
      rw [fE (by rw [py];omega),Cb (by omega) hl,uh (show j<t.Keys.length by omega)]
      simp only [eC,Option.all,Bool.true_and]
      by_cases h3:t.Keys[j]<t.Keys[j+1]
      ·rw [mN h3,ol (show¬t.Keys[j+1]<=t.Keys[j] by omega)];simp
      ·rw [ol h3,mN (show t.Keys[j+1]<=t.Keys[j] by omega)];simp
    ·rw [cS (by rw [mN (show(t.Columns.length:Int)<=t.Keys[i] by omega)];simp),ol J];simp
   ·rw [cS (by rw [mN (show t.Keys[i]<0 by omega)];simp),ol H];simp
  ·rw [cS (by rw [py];omega),se (by omega)];rfl
def qE(t:bv):Bool:=(mz t.Name&&decide (1<=t.Columns.length)&&decide (t.Columns.length<=4))&&(D2 [] t.Columns&&KQ t.Columns.length none t.Keys)
def y0(t:bv)(hl:t.Keys.length<=100000):iX t=some (if qE t then 0 else 211):=by
 unfold iX qE
 rw [o4,eC,Ff]
 have key:=EP t hl t.Keys.length 0
 rw [r0]at key
 have e1:decide ((1:Int)<=(t.Columns.length:Int))=decide (1<=t.Columns.length):=by rw [Ab];omega
 have e2:decide ((t.Columns.length:Int)<=(4:Int))=decide (t.Columns.length<=4):=by rw [Ab];omega
 rw [e1,e2]
 cases h:(mz t.Name&&decide (1<=t.Columns.length)&&decide (t.Columns.length<=4))with
 |false=>
  rw [cS (by simp),eC,un,key _ rfl (iM _)];simp
 |true=>
  rw [fE rfl,AG,eC,eC,un,key _ rfl (iM _)]
  simp [zj]
def zh(t:bv)(nx:Int->Option Bool)(i:Nat)(hi:i<t.Columns.length)(hn:t.Columns.length<=4)(e:bw): ∀(n k:Nat),i<k+n->k<=i->gh t nx (i:Int) e n (k:Int)=if((t.Columns.take i).drop k).any (fun y=>y.Name==e.Name)then some false else nx ((i+1:Nat):Int)
 |0,k,h,hk=>by omega
 |n+1,k,h,hk=>by
  unfold gh
  by_cases hlt:k<i
  ·have hw:IntKind.i64.wrap ((k:Int)+1)=((k+1:Nat):Int):=by rw [yG];omega
   have hl2:k<(t.Columns.take i).length:=by simp;omega
   rw [fE (by rw [py];omega),la,nw (by omega),eC,hw,zh t nx i hi hn e n (k+1) (by omega) (by omega),uW hl2,wu,List.getElem_take]
   cases (t.Columns[k].Name==e.Name)<;>simp
  ·have hw:IntKind.i64.wrap ((i:Int)+1)=((i+1:Nat):Int):=by rw [yG];omega
   rw [cS (by rw [py];omega),hw,se (by simp;omega)]
   simp
def EB(t:bv)(hn:t.Columns.length<=4)(hl:t.Keys.length<=100000): ∀(n i:Nat),t.Columns.length<i+n->i<=t.Columns.length->ff t n (i:Int)=some (D2 (t.Columns.take i) (t.Columns.drop i)&&KQ t.Columns.length none t.Keys)
 |0,i,h,hi=>by omega
 |n+1,i,h,hi=>by
  unfold ff
  by_cases hlt:i<t.Columns.length
  ·obtain⟨r,H,J⟩:=yO t.Columns[i].Kind
   have ih:=EB t hn hl n (i+1) (by omega) (by omega)
   rw [fE (by rw [py];omega),la,nw hlt,eC,qi,eC,H,show((0:Int))=((0:Nat):Int)from rfl,zh t _ i hlt hn _ kw 0 (by unfold kw;omega) (iM _),ih,r0,uW hlt,GT hlt,show∀p x t,D2 p (x::t)=((mz x.Name&&qT x.Kind&& !AO p x)&&D2 (p++[x]) t)from fun _ _ _=>rfl]
   simp only [eC,J]
   show _=some ((mz t.Columns[i].Name&&qT t.Columns[i].Kind&& !((t.Columns.take i).any fun y=>y.Name==t.Columns[i].Name))&&_&&_)
   cases mz t.Columns[i].Name<;>cases qT t.Columns[i].Kind<;>cases ((t.Columns.take i).any fun y=>y.Name==t.Columns[i].Name)<;>simp
  ·rw [cS (by rw [py];omega),show((0:Int))=((0:Nat):Int)from rfl,BU t hl kw 0 (by unfold kw;omega) (iM _),se (show t.Columns.length<=i by omega),r0]
   rfl
def yZ(t:bv)(hl:t.Keys.length<=100000):jS t=some (qE t):=by
 unfold jS qE
 rw [qi,eC]
 by_cases H:1<=t.Columns.length
 ·by_cases J:t.Columns.length<=4
  ·rw [ol (show¬(t.Columns.length:Int)<1 by omega),ol (show¬(4:Int)<(t.Columns.length:Int) by omega),mN H,mN J,show((0:Int))=((0:Nat):Int)from rfl,EB t J hl kw 0 (by unfold kw;omega) (iM _),List.take_zero,r0]
   cases mz t.Name<;>simp
  ·rw [mN (show(4:Int)<(t.Columns.length:Int) by omega),ol J];simp
 ·rw [mN (show(t.Columns.length:Int)<1 by omega),ol H];simp
def AN(p:List bv)(x:bv):Bool:=p.any fun y=>y.Name==x.Name
def C3:List bv->List bv->Bool
 |_,[]=>true
 |p,x::t=>(!AN p x&&mz x.Name)&&C3 (p++[x]) t
def C2:List bv->List bv->Bool
 |_,[]=>true
 |p,x::t=>(qE x&& !AN p x)&&C2 (p++[x]) t
def G3{t:bv}(h:qE t=true):mz t.Name=true:=by
 unfold qE at h
 simp only [lG]at h
 exact h.1.1.1
def Ey: ∀(t p:List bv),C2 p t=(t.all qE&&C3 p t)
 |[],_=>rfl
 |x::t,p=>by
  unfold C2 C3
  rw [Ey t (p++[x]),xe]
  cases h:qE x with
  |false=>simp
  |true=>
   rw [G3 h]
   cases AN p x<;>simp
def Hx(x:bv)(t:List bv): ∀(p:List bv) (i:Nat),∃k:Nat,bF (dV dE x.Name) (p++x::t) i=some ((i+k:Nat):Int)/\(k !=p.length)=AN p x
 |[],i=>⟨0,by unfold bF;simp [dV,dE],rfl⟩
 |y::p,i=>by
  rw [Bs]
  unfold bF
  rw [show dV dE x.Name y=some (y.Name==x.Name)from rfl,eC]
  cases h:(y.Name==x.Name)with
  |true=>exact⟨0,rfl,by unfold AN;rw [wu,h];rfl⟩
  |false=>
   obtain⟨k,H,J⟩:=Hx x t p (i+1)
   refine⟨k+1,by rw [cS (by simp),H];congr 2;omega,?_⟩
   unfold AN at J ⊢
   rw [wu,h,qt,<-J,Aa]
   rw [y3];simp
def Nl(x:bv)(p t:List bv): ∃k:Int,fb (p++x::t) dE x.Name=some (k,true)/\(k !=(p.length:Int))=AN p x:=by
 obtain⟨k,H,J⟩:=Hx x t p 0
 refine⟨(k:Int),?_,?_⟩
 ·unfold fb cM
  rw [H,eC,qr]
  have e1:max (k:Int) 0=(k:Int):=by omega
  have e2:decide ((0:Int)<=(k:Int))=true:=mN (by omega)
  rw [e1,e2]
 ·rw [<-J,y3];simp;omega
def KA: ∀(t p:List bv),eo (p++t) dE t p.length=some (C3 p t)
 |[],p=>rfl
 |x::t,p=>by
  unfold eo
  obtain⟨k,H,J⟩:=Nl x p t
  rw [show dE x=some x.Name from rfl,eC,H,eC]
  simp only [J,eC,o4]
  unfold C3
  have ih:=KA t (p++[x])
  rw [sa,CQ,j6,CP]at ih
  rw [ih]
  cases AN p x<;>cases mz x.Name<;>simp
def vM(c:aY):Prop:= ∀t∈c.Tables,t.Keys.length<=100000
def uH: ∀(l:List bv) (i:Nat),(∀t∈l,t.Keys.length<=100000)-> ∃j:Int,bF gR l i=some j/\decide (0<=j)= !l.all qE
 |[],i,_=>⟨-1,rfl,rfl⟩
 |x::l,i,h=>by
  unfold bF
  rw [show gR x=some (!qE x) by unfold gR;rw [y0 x (h x (oh ..)),eC];cases qE x<;>rfl,eC,xe]
  cases A:qE x with
  |false=>exact⟨(i:Int),rfl,by simp⟩
  |true=>
   obtain⟨j,H,J⟩:=uH l (i+1) fun t Y=>h t (oj _ Y)
   exact⟨j,by simpa using H,by simpa using J⟩
def uL(c:aY):Bool:=decide (c.Tables.length<=4)&&C2 [] c.Tables
def vH{c:aY}(h:vM c):ks c=some (if uL c then 0 else 210):=by
 unfold ks uL
 obtain⟨j,H,J⟩:=uH c.Tables 0 h
 have h3:iW c.Tables dE=some (C3 [] c.Tables):=KA c.Tables []
 rw [Ey]
 by_cases hl:c.Tables.length<=4
 ·rw [ol (show¬(4:Int)<(c.Tables.length:Int) by omega),mN hl]
  unfold d5 cM
  rw [H,h3]
  simp only [Bool.not_false,qw,eC,J]
  cases c.Tables.all qE<;>cases C3 [] c.Tables<;>rfl
 ·rw [mN (show(4:Int)<(c.Tables.length:Int) by omega),ol hl];rfl
def zg(c:aY)(nx:Int->Option Bool)(i:Nat)(hi:i<c.Tables.length)(hn:c.Tables.length<=4)(e:bv): ∀(n k:Nat),i<k+n->k<=i->jv c nx (i:Int) e n (k:Int)=if((c.Tables.take i).drop k).any (fun y=>y.Name==e.Name)then some false else nx ((i+1:Nat):Int)
 |0,k,h,hk=>by omega
 |n+1,k,h,hk=>by
  unfold jv
  by_cases hlt:k<i
  ·have hw:IntKind.i64.wrap ((k:Int)+1)=((k+1:Nat):Int):=by rw [yG];omega
   have hl2:k<(c.Tables.take i).length:=by simp;omega
   rw [fE (by rw [py];omega),la,nw (by omega),eC,hw,zg c nx i hi hn e n (k+1) (by omega) (by omega),uW hl2,wu,List.getElem_take]
   cases (c.Tables[k].Name==e.Name)<;>simp
  ·have hw:IntKind.i64.wrap ((i:Int)+1)=((i+1:Nat):Int):=by rw [yG];omega
   rw [cS (by rw [py];omega),hw,se (by simp;omega)]
   simp
def Ez(c:aY)(hn:c.Tables.length<=4)(hc:vM c): ∀(n i:Nat),c.Tables.length<i+n->i<=c.Tables.length->iw c n (i:Int)=some (C2 (c.Tables.take i) (c.Tables.drop i))
 |0,i,h,hi=>by omega
 |n+1,i,h,hi=>by
  unfold iw
  by_cases hlt:i<c.Tables.length
  ·have ih:=Ez c hn hc n (i+1) (by omega) (by omega)
   rw [fE (by rw [py];omega),la,nw hlt,eC,yZ _ (hc _ (List.getElem_mem hlt)),eC,show((0:Int))=((0:Nat):Int)from rfl,zg c _ i hlt hn _ kw 0 (by unfold kw;omega) (iM _),ih,r0,uW hlt,GT hlt,show∀p x t,C2 p (x::t)=((qE x&& !AN p x)&&C2 (p++[x]) t)from fun _ _ _=>rfl]
   show _=some ((qE c.Tables[i]&& !((c.Tables.take i).any fun y=>y.Name==c.Tables[i].Name))&&_)
   cases qE c.Tables[i]<;>cases ((c.Tables.take i).any fun y=>y.Name==c.Tables[i].Name)<;>simp
  ·rw [cS (by rw [py];omega),se (show c.Tables.length<=i by omega)]
   rfl
def xK{c:aY}(h:vM c):oy c=some (uL c):=by
 unfold oy uL
 by_cases hl:c.Tables.length<=4
 ·rw [cS (by rw [py];omega),show((0:Int))=((0:Nat):Int)from rfl,Ez c hl h kw 0 (by unfold kw;omega) (iM _),mN hl]
  rfl
 ·rw [fE (by rw [py];omega),ol hl];rfl
end Go.Proofs.YthbdkceckjihgaaGreatDoor

