/- cF of this claim: Q1, Q2. -/
import Derived.Test.YtmogpgcfognefaaGreatDoorNbQ1
import Derived.Laws.RangeAny
import Derived.Shelf.Strings.CaseAny
set_option linter.all false
namespace Go.Proofs.YtmogpgcfognefaaGreatDoor
open Go

def pc(n:Nat):Bool:=decide (97≤n)&&decide (n≤122)
def uY(n:Nat):Bool:=decide (48≤n)&&decide (n≤57)
def L8(n:Nat):Bool:=pc n||uY n||n==95
def La(b:UInt8):Bool:=L8 b.toNat
theorem tG(n:Nat):pA (n:Int)=some (pc n):=by
 unfold pA pc
 congr 2<;>(rw [yL];omega)
theorem An(n:Nat):rJ (n:Int)=some (uY n):=by
 unfold rJ uY
 congr 2<;>(rw [yL];omega)
theorem C6{n:Nat}(h:L8 n=true):n<128:=by
 unfold L8 pc uY at h
 simp only [AY,iN,Cx,u4]at h
 omega
theorem LZ(n:Nat):((n:Int) !=(95:Int))= !(n==95):=by
 rw [bne,zI]
 simp only [wt,beq_eq_false_iff_ne,ne_eq]
 omega
variable{i:Nat}
theorem Hv{s:ji}(h:i<s.length)(hb:(s[i]).toNat<128):nZ s i=((s[i]).toNat,1):=
 decode_ascii ⟨s.toArray⟩ i (show i<(ByteArray.mk s.toArray).size from h) hb
theorem F5{s:ji}(h:i<s.length)(hb: ¬(s[i]).toNat<128):128≤(nZ s i).1:=
 (decode_high ⟨s.toArray⟩ i (show i<(ByteArray.mk s.toArray).size from h) (show 128≤(s[i]).toNat by omega)).1
theorem Bi(s:ji): ∀(f i:Nat),s.length<i+f→lA (oo s f i)=some ((s.drop i).all La)
 |0,i,h=>by
  rw [vK (by omega)];rfl
 |f+1,i,h=>by
  unfold oo
  by_cases hi:i<s.length
  ·rw [df hi]
   unfold lA
   simp only [An,tG,ce,LZ]
   rw [wv hi,u7]
   by_cases hb:(s[i]).toNat<128
   ·rw [Hv hi hb]
    simp only []
    have ih:=Bi s f (i+1) (by omega)
    have e:La s[i]=(pc (s[i]).toNat||uY (s[i]).toNat||(s[i]).toNat==95):=rfl
    rw [e]
    cases h1:uY (s[i]).toNat<;>cases h2:pc (s[i]).toNat<;>cases h3:((s[i]).toNat==95)<;>simp [ih]
   ·have hh:=F5 hi hb
    have e:La s[i]=false:=by
     cases ho:La s[i]with
     |false=>rfl
     |true=>exact absurd (C6 ho) hb
    have e2:L8 (nZ s i).1=false:=by
     cases ho:L8 (nZ s i).1 with
     |false=>rfl
     |true=>have:=C6 ho;omega
    rw [e,Bool.false_and]
    unfold L8 at e2
    simp only [Bool.or_eq_false_iff]at e2
    obtain⟨⟨h2,h1⟩,h3⟩:=e2
    simp [h1,h2,h3]
  ·rw [dh hi,vK (by omega)];rfl
def DY(s:ji):Bool:=MP.any fun w=>w==s
theorem Co(v:ji): ∀(l:List ji) (i:Nat),∃j:Int,dE v l i=some j∧decide (0≤j)=l.any fun w=>w==v
 |[],i=>⟨-1,rfl,rfl⟩
 |e::l,i=>by
  unfold dE
  by_cases h:v=e
  ·subst h
   exact⟨(i:Int),by simp,by simp⟩
  ·obtain⟨j,h1,h2⟩:=Co v l (i+1)
   exact⟨j,by simp [h,h1],by simp [h2,Ne.symm h]⟩
theorem sn(s:ji):p8 s=some (DY s):=by
 unfold p8 gw im
 obtain⟨j,h1,h2⟩:=Co s MP 0
 rw [h1]
 simp only [ce,h2]
 rfl
def L7(b:UInt8):UInt8:=UInt8.ofNat (if pc b.toNat then b.toNat-32 else b.toNat)
theorem E8: ∀b:UInt8,L7 b=Lib.upperB b:=by
 intro b
 have key: ∀i:Fin 256,L7 (UInt8.ofNat i.val)=Lib.upperB (UInt8.ofNat i.val):=by decide+kernel
 have:=key ⟨b.toNat,b.toNat_lt⟩
 simpa using this
theorem yI(s:ji)(hs:s.length≤1000)(ha: ∀b∈s,La b=true):gO s=some (s.map L7):=by
 unfold gO
 rw [df (by omega),Lib.toUpperD_ascii s (fun b hb=>C6 (ha b hb))]
 unfold Lib.toUpperA
 rw [show L7=Lib.upperB from funext E8]
def Km:ji→Bool
 |[]=>false
 |b::_=>pc b.toNat
def qZ(s:ji):Bool:=(decide (1≤s.length)&&decide (s.length≤16)&&Km s)&&(!DY (s.map L7)&&s.all La)
theorem FP{b:UInt8}{t:ji}:Hc (b::t) (0:Int)=some (b.toNat:Int):=by unfold Hc;rfl
theorem ph(s:ji):m2 s=some (qZ s):=by
 unfold m2 qZ
 cases s with
 |nil=>rfl
 |cons b t=>
  by_cases hl:(b::t).length≤16
  ·rw [df (by rw [show((b::t)==([]:ji))=false from rfl,sy,wt,E2];omega),FP,ce]
   have hb:=b.toNat_lt
   rw [show IntKind.i32.wrap (b.toNat:Int)=(b.toNat:Int) by rw [IntKind.wrap_i32];omega,tG,ce,ce]
   have e0:(decide (1≤(b::t).length)&&decide ((b::t).length≤16)&&Km (b::t))=pc b.toNat:=by
    rw [vF (show 1≤(b::t).length by simp),vF hl];rfl
   rw [e0]
   cases hsm:pc b.toNat with
   |false=>rfl
   |true=>
    have hr:=Bi (b::t) ((b::t).length+1) 0 (by omega)
    rw [qJ]at hr
    have hT:gO (b::t)=some (Lib.toUpperD (b::t)):=by unfold gO;rw [df (by omega)]
    simp only [sx,Bool.not_false,o8]
    cases ha:(b::t).all La with
    |true=>
     rw [yI (b::t) (by omega) (fun c hc=>lu.1 ha c hc),ce,sn,ce,ce]
     unfold Bj
     rw [hr,ha]
     cases DY ((b::t).map L7)<;>rfl
    |false=>
     rw [hT,ce,sn,ce,ce]
     unfold Bj
     rw [hr,ha]
     cases DY (Lib.toUpperD (b::t))<;>simp
  ·rw [dh (by rw [show((b::t)==([]:ji))=false from rfl,sy,wt,E2,Classical.not_not];omega)]
   rw [vG hl]
   simp

def y9(k:Int):Bool:=k==1||k==2||k==3
theorem vU(k:Int): ∃r,n4 k=some r∧(r==([]:ji))= !y9 k:=by
 have g0:fe Ll ((0:Nat):Int)=some ⟨[98,111,111,108],1⟩:=rfl
 have g1:fe Ll ((0+1:Nat):Int)=some ⟨[105,110,116],2⟩:=rfl
 have g2:fe Ll ((0+1+1:Nat):Int)=some ⟨[116,101,120,116],3⟩:=rfl
 unfold n4
 by_cases h1:k=1
 ·subst h1;exact⟨_,by simp only [gT,g0,ce];rfl,rfl⟩
 by_cases h2:k=2
 ·subst h2;exact⟨_,by simp only [gT,g0,g1,ce];rfl,rfl⟩
 by_cases h3:k=3
 ·subst h3;exact⟨_,by simp only [gT,g0,g1,g2,ce];rfl,rfl⟩
 have n1:((1:Int)==k)=false:=by simpa using Ne.symm h1
 have n2:((2:Int)==k)=false:=by simpa using Ne.symm h2
 have n3:((3:Int)==k)=false:=by simpa using Ne.symm h3
 refine⟨[],?_,?_⟩
 ·simp only [gT,g0,g1,g2,ce,n1,n2,n3];rfl
 ·simp [y9,h1,h2,h3]
def BE(p:List aU)(x:aU):Bool:=p.any fun y=>y.Name==x.Name
def F6:List aU→List aU→Bool
 |_,[]=>true
 |p,x::t=>(!BE p x&&qZ x.Name)&&F6 (p++[x]) t
def JW:List aU→List aU→Bool
 |_,[]=>true
 |p,x::t=>(qZ x.Name&&y9 x.Kind&& !BE p x)&&JW (p++[x]) t
theorem EH: ∀(t p:List aU),JW p t=(F6 p t&&t.all fun x=>y9 x.Kind)
 |[],_=>rfl
 |x::t,p=>by
  unfold JW F6
  rw [EH t (p++[x]),u7]
  cases BE p x<;>cases qZ x.Name<;>cases y9 x.Kind<;>simp
theorem Ha(x:aU)(t:List aU): ∀(p:List aU) (i:Nat),∃k:Nat,cc (dH dN x.Name) (p++x::t) i=some ((i+k:Nat):Int)∧(k !=p.length)=BE p x
 |[],i=>⟨0,by unfold cc;simp [dH,dN],rfl⟩
 |y::p,i=>by
  rw [yM]
  unfold cc
  rw [show dH dN x.Name y=some (y.Name==x.Name)from rfl,ce]
  cases h:(y.Name==x.Name)with
  |true=>exact⟨0,rfl,by unfold BE;rw [List.any_cons,h];rfl⟩
  |false=>
   obtain⟨k,h1,h2⟩:=Ha x t p (i+1)
   refine⟨k+1,by rw [dh (by simp),h1];congr 2;omega,?_⟩
   unfold BE at h2 ⊢
   rw [List.any_cons,h,sy,←h2,mN]
   rw [zI];simp
theorem MY(x:aU)(p t:List aU): ∃k:Int,gM (p++x::t) dN x.Name=some (k,true)∧(k !=(p.length:Int))=BE p x:=by
 obtain⟨k,h1,h2⟩:=Ha x t p 0
 refine⟨(k:Int),?_,?_⟩
 ·unfold gM eo
  rw [h1,ce,nm]
  have e1:max (k:Int) 0=(k:Int):=by omega
  have e2:decide ((0:Int)≤(k:Int))=true:=vF (by omega)
  rw [e1,e2]
 ·rw [←h2,zI];simp;omega
theorem Ke: ∀(t p:List aU),ez (p++t) dN t p.length=some (F6 p t)
 |[],p=>rfl
 |x::t,p=>by
  unfold ez
  obtain⟨k,h1,h2⟩:=MY x p t
  rw [show dN x=some x.Name from rfl,ce,h1,ce]
  simp only [h2,ce,ph]
  unfold F6
  have ih:=Ke t (p++[x])
  rw [qE,List.singleton_append,kH,List.length_singleton]at ih
  rw [ih]
  cases BE p x<;>cases qZ x.Name<;>simp
theorem Ah(l:List aU):jH l dN=some (F6 [] l):=Ke l []
theorem tI(t:bo): ∀(l:List aU) (ok:Bool),eS t l ok=d8 t t.Keys 0 (ok&&l.all fun x=>y9 x.Kind)
 |[],ok=>by unfold eS;simp
 |x::l,ok=>by
  unfold eS
  obtain⟨r,h1,h2⟩:=vU x.Kind
  cases ok with
  |false=>
   rw [dh (by simp),ce,tI t l];simp
  |true=>
   rw [df rfl,h1,ce,ce,tI t l,h2,u7];simp
def KQ(n:Nat):Option Int→List Int→Bool
 |_,[]=>true
 |o,k::t=>(decide (0≤k)&&decide (k<(n:Int))&&(o.all fun j=>decide (j<k)))&&KQ n (some k) t
theorem EV(n:Nat)(o:Option Int)(k:Int)(t:List Int):KQ n o (k::t)=((decide (0≤k)&&decide (k<(n:Int))&&(o.all fun j=>decide (j<k)))&&KQ n (some k) t):=rfl
def Ec(l:List Int):Nat→Option Int
 |0=>none
 |i+1=>l[i]?
theorem Bn{l:List Int}(h:i<l.length):Ec l (i+1)=some l[i]:=mM h
theorem Hb{l:List Int}(h:i+1≤l.length)(hl:l.length≤100000):fe l (IntKind.i64.wrap (((i+1:Nat):Int)-1))=some l[i]:=by
 rw [show IntKind.i64.wrap (((i+1:Nat):Int)-1)=(i:Int) by rw [IntKind.wrap_i64];omega,de,mM (by omega)]
theorem El(t:bo)(hl:t.Keys.length≤100000): ∀(n i:Nat) (ok:Bool),t.Keys.length-i=n→i≤t.Keys.length→d8 t (t.Keys.drop i) i ok=some (if ok&&KQ t.Columns.length (Ec t.Keys i) (t.Keys.drop i)then 0 else 211)
 |0,i,ok,h,hi=>by
  rw [vK (by omega)]
  unfold d8 KQ
  cases ok<;>rfl
 |n+1,i,ok,h,hi=>by
  have hlt:i<t.Keys.length:=by omega
  rw [wv hlt,EV]
  unfold d8
  have ih:=El t hl n (i+1)
  rw [Bn hlt]at ih
  cases ok with
  |false=>
   simp only [Bool.false_and,ux,po,ce]
   rw [ih false (by omega) (by omega)];simp
  |true=>
   simp only [yK]
   by_cases h1:(0:Int)≤t.Keys[i]
   ·by_cases h2:t.Keys[i]<(t.Columns.length:Int)
    ·rw [df (by rw [vF h1,vF h2];rfl),vF h1,vF h2]
     cases i with
     |zero=>
      rw [dh (by simp),ce,ce,ih true (by omega) (by omega)]
      simp [Ec]
     |succ j=>
      rw [df (by simp;omega),Hb (by omega) hl,ce,ce,ce,ih _ (by omega) (by omega),Bn (by omega)]
      simp [Option.all]
    ·rw [dh (by rw [vG h2];simp),ce,ih false (by omega) (by omega),vG h2];simp
   ·rw [dh (by rw [vG h1];simp),ce,ih false (by omega) (by omega),vG h1];simp
def uB(t:bo):Bool:=(qZ t.Name&&decide (1≤t.Columns.length)&&decide (t.Columns.length≤4))&&(JW [] t.Columns&&KQ t.Columns.length none t.Keys)
theorem yJ(t:bo)(hl:t.Keys.length≤100000):j4 t=some (if uB t then 0 else 211):=by
 unfold j4 uB
 rw [ph,ce,EH]
 have key:=El t hl t.Keys.length 0
 rw [qJ]at key
 have e1:decide ((1:Int)≤(t.Columns.length:Int))=decide (1≤t.Columns.length):=by rw [yL];omega
 have e2:decide ((t.Columns.length:Int)≤(4:Int))=decide (t.Columns.length≤4):=by rw [yL];omega
 rw [e1,e2]
 cases h:(qZ t.Name&&decide (1≤t.Columns.length)&&decide (t.Columns.length≤4))with
 |false=>
  rw [dh (by simp),ce,tI,key _ rfl (ju _)];simp
 |true=>
  rw [df rfl,Ah,ce,ce,tI,key _ rfl (ju _)]
  simp [Ec]
def BD(p:List bo)(x:bo):Bool:=p.any fun y=>y.Name==x.Name
def CJ:List bo→List bo→Bool
 |_,[]=>true
 |p,x::t=>(!BD p x&&qZ x.Name)&&CJ (p++[x]) t
def Ic:List bo→List bo→Bool
 |_,[]=>true
 |p,x::t=>(uB x&& !BD p x)&&Ic (p++[x]) t
theorem GI{t:bo}(h:uB t=true):qZ t.Name=true:=by
 unfold uB at h
 simp only [iN]at h
 exact h.1.1.1
theorem zZ: ∀(t p:List bo),Ic p t=(t.all uB&&CJ p t)
 |[],_=>rfl
 |x::t,p=>by
  unfold Ic CJ
  rw [zZ t (p++[x]),u7]
  cases h:uB x with
  |false=>simp
  |true=>
   rw [GI h]
   cases BD p x<;>simp
theorem G9(x:bo)(t:List bo): ∀(p:List bo) (i:Nat),∃k:Nat,bG (dU ee x.Name) (p++x::t) i=some ((i+k:Nat):Int)∧(k !=p.length)=BD p x
 |[],i=>⟨0,by unfold bG;simp [dU,ee],rfl⟩
 |y::p,i=>by
  rw [yM]
  unfold bG
  rw [show dU ee x.Name y=some (y.Name==x.Name)from rfl,ce]
  cases h:(y.Name==x.Name)with
  |true=>exact⟨0,rfl,by unfold BD;rw [List.any_cons,h];rfl⟩
  |false=>
   obtain⟨k,h1,h2⟩:=G9 x t p (i+1)
   refine⟨k+1,by rw [dh (by simp),h1];congr 2;omega,?_⟩
   unfold BD at h2 ⊢
   rw [List.any_cons,h,sy,←h2,mN]
   rw [zI];simp
theorem MX(x:bo)(p t:List bo): ∃k:Int,hJ (p++x::t) ee x.Name=some (k,true)∧(k !=(p.length:Int))=BD p x:=by
 obtain⟨k,h1,h2⟩:=G9 x t p 0
 refine⟨(k:Int),?_,?_⟩
 ·unfold hJ cS
  rw [h1,ce,nm]
  have e1:max (k:Int) 0=(k:Int):=by omega
  have e2:decide ((0:Int)≤(k:Int))=true:=vF (by omega)
  rw [e1,e2]
 ·rw [←h2,zI];simp;omega
theorem Kd: ∀(t p:List bo),eG (p++t) ee t p.length=some (CJ p t)
 |[],p=>rfl
 |x::t,p=>by
  unfold eG
  obtain⟨k,h1,h2⟩:=MX x p t
  rw [show ee x=some x.Name from rfl,ce,h1,ce]
  simp only [h2,ce,ph]
  unfold CJ
  have ih:=Kd t (p++[x])
  rw [qE,List.singleton_append,kH,List.length_singleton]at ih
  rw [ih]
  cases BD p x<;>cases qZ x.Name<;>simp
def qt(c:bz):Prop:= ∀t∈c.Tables,t.Keys.length≤100000
theorem ub: ∀(l:List bo) (i:Nat),(∀t∈l,t.Keys.length≤100000)→ ∃j:Int,bG iL l i=some j∧decide (0≤j)= !l.all uB
 |[],i,_=>⟨-1,rfl,rfl⟩
 |x::l,i,h=>by
  unfold bG
  rw [show iL x=some (!uB x) by unfold iL;rw [yJ x (h x (lI ..)),ce];cases uB x<;>rfl,ce,u7]
  cases hx:uB x with
  |false=>exact⟨(i:Int),rfl,by simp⟩
  |true=>
   obtain⟨j,h1,h2⟩:=ub l (i+1) fun t ht=>h t (lC _ ht)
   exact⟨j,by simpa using h1,by simpa using h2⟩
def B2(c:bz):Bool:=decide (c.Tables.length≤4)&&Ic [] c.Tables
theorem u0{c:bz}(h:qt c):ni c=some (if B2 c then 0 else 210):=by
 unfold ni B2
 obtain⟨j,h1,h2⟩:=ub c.Tables 0 h
 have h3:j3 c.Tables ee=some (CJ [] c.Tables):=Kd c.Tables []
 rw [zZ]
 by_cases hl:c.Tables.length≤4
 ·rw [vG (show¬(4:Int)<(c.Tables.length:Int) by omega),vF hl]
  unfold eh cS
  rw [h1,h3]
  simp only [Bool.not_false,o8,ce,h2]
  cases c.Tables.all uB<;>cases CJ [] c.Tables<;>rfl
 ·rw [vF (show(4:Int)<(c.Tables.length:Int) by omega),vG hl];rfl
end Go.Proofs.YtmogpgcfognefaaGreatDoor

