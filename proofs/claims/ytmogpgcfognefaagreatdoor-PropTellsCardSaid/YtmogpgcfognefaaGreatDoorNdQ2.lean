/- di of this claim: Q1, Q2. -/
import Derived.Test.YtmogpgcfognefaaGreatDoorNdQ1
import Derived.Laws.RangeAny
import Derived.Shelf.Strings.CaseAny
set_option linter.all false
namespace Go.Proofs.YtmogpgcfognefaaGreatDoor
open Go

def oj(n:Nat):Bool:=decide (97≤n)&&decide (n≤122)
def vL(n:Nat):Bool:=decide (48≤n)&&decide (n≤57)
def UR(n:Nat):Bool:=oj n||vL n||n==95
def Ql(b:UInt8):Bool:=UR b.toNat
theorem vB(n:Nat):u3 (n:Int)=some (oj n):=by
 unfold u3 oj
 congr 2<;>(rw [By];omega)
theorem zn(n:Nat):xj (n:Int)=some (vL n):=by
 unfold xj vL
 congr 2<;>(rw [By];omega)
theorem s7(n:Nat):rO (n:Int)=some (oj n):=vB n
theorem CQ(n:Nat):wD (n:Int)=some (vL n):=zn n
theorem Jz{n:Nat}(h:UR n=true):n<128:=by
 unfold UR oj vL at h
 simp only [z7,iz,oU,uM]at h
 omega
theorem Pt(n:Nat):((n:Int) !=(95:Int))= !(n==95):=by
 rw [bne,xu]
 simp only [xX,beq_eq_false_iff_ne,ne_eq]
 omega
variable{i:Nat}
theorem Pf{s:iZ}(h:i<s.length)(hb:(s[i]).toNat<128):sH s i=((s[i]).toNat,1):=
 decode_ascii ⟨s.toArray⟩ i (show i<(ByteArray.mk s.toArray).size from h) hb
theorem Nj{s:iZ}(h:i<s.length)(hb: ¬(s[i]).toNat<128):128≤(sH s i).1:=
 (decode_high ⟨s.toArray⟩ i (show i<(ByteArray.mk s.toArray).size from h) (show 128≤(s[i]).toNat by omega)).1
theorem Hx(s:iZ): ∀(f i:Nat),s.length<i+f→po (s3 s f i)=some ((s.drop i).all Ql)
 |0,i,h=>by
  rw [vf (by omega)];rfl
 |f+1,i,h=>by
  unfold s3
  by_cases hi:i<s.length
  ·rw [bQ hi]
   unfold po
   simp only [zn,vB,bA,Pt]
   rw [ut hi,yI]
   by_cases hb:(s[i]).toNat<128
   ·rw [Pf hi hb]
    simp only []
    have ih:=Hx s f (i+1) (by omega)
    have e:Ql s[i]=(oj (s[i]).toNat||vL (s[i]).toNat||(s[i]).toNat==95):=rfl
    rw [e]
    cases h1:vL (s[i]).toNat<;>cases h2:oj (s[i]).toNat<;>cases h3:((s[i]).toNat==95)<;>simp [ih]
   ·have hh:=Nj hi hb
    have e:Ql s[i]=false:=by
     cases ho:Ql s[i]with
     |false=>rfl
     |true=>exact absurd (Jz ho) hb
    have e2:UR (sH s i).1=false:=by
     cases ho:UR (sH s i).1 with
     |false=>rfl
     |true=>have:=Jz ho;omega
    rw [e,Ew]
    unfold UR at e2
    simp only [Bool.or_eq_false_iff]at e2
    obtain⟨⟨h2,h1⟩,h3⟩:=e2
    simp [h1,h2,h3]
  ·rw [bI hi,vf (by omega)];rfl
def EF(s:iZ):Bool:=VF.any fun w=>w==s
theorem IM(v:iZ): ∀(l:List iZ) (i:Nat),∃j:Int,ft v l i=some j∧decide (0≤j)=l.any fun w=>w==v
 |[],i=>⟨-1,rfl,rfl⟩
 |e::l,i=>by
  unfold ft
  by_cases h:v=e
  ·subst h
   exact⟨(i:Int),by simp,by simp⟩
  ·obtain⟨j,h1,h2⟩:=IM v l (i+1)
   exact⟨j,by simp [h,h1],by simp [h2,Ne.symm h]⟩
theorem xP(s:iZ):vC s=some (EF s):=by
 unfold vC jJ k5
 obtain⟨j,h1,h2⟩:=IM s VF 0
 rw [h1]
 simp only [bA,h2]
 rfl
theorem OL(s:iZ): ∀l:List iZ,qy s l=some (l.any fun w=>w==s)
 |[]=>rfl
 |e::l=>by
  unfold qy
  rw [OL s l,vU]
  cases (e==s)<;>rfl
theorem BK(s:iZ):sy s=some (EF s):=by
 unfold sy wE Ao
 rw [bA,OL]
 rfl
def NQ(b:UInt8):UInt8:=UInt8.ofNat (if oj b.toNat then b.toNat-32 else b.toNat)
theorem LZ: ∀b:UInt8,NQ b=Lib.upperB b:=by
 intro b
 have key: ∀i:Fin 256,NQ (UInt8.ofNat i.val)=Lib.upperB (UInt8.ofNat i.val):=by decide+kernel
 have:=key ⟨b.toNat,b.toNat_lt⟩
 simpa using this
theorem yZ(a b:List Int):sm (a++b)=sm a++sm b:=by simp [sm]
theorem wZ(s:iZ)(hs:s.length≤1000): ∀(n i:Nat) (out:List Int),s.length<i+n→out.length≤i→i≤s.length→ln s n out (i:Int)=some (sm out++(s.drop i).map NQ)
 |0,i,out,h,_,h2=>by omega
 |n+1,i,out,h,h1,h2=>by
  unfold ln
  by_cases hi:i<s.length
  ·rw [bQ (by rw [oU];omega)]
   have e:zt s (i:Int)=some ((s[i]).toNat:Int):=by
    unfold zt
    rw [cK,nP hi];rfl
   have hw:IntKind.i64.wrap ((i:Int)+1)=((i+1:Nat):Int):=by rw [D0];omega
   rw [e,bA,s7,bA,ut hi,xC]
   have hlt:=(s[i]).toNat_lt
   cases hsm:oj (s[i]).toNat with
   |true=>
    have h97:97≤(s[i]).toNat∧(s[i]).toNat≤122:=by simpa [oj] using hsm
    have hc:IntKind.u8.wrap (IntKind.u8.wrap (((s[i]).toNat:Int)-97)+65)=(((s[i]).toNat-32:Nat):Int):=by
     rw [IntKind.wrap_u8,IntKind.wrap_u8];omega
    rw [bQ rfl,hc]
    unfold oA
    rw [du (by simp;omega),bA,hw,wZ s hs n (i+1) _ (by omega) (by simp;omega) (by omega),yZ,mV]
    congr 2
    show sm [_]++_=_
    simp only [sm,xC,List.map_nil,yM,nv]
    congr 1
    simp [NQ,hsm]
   |false=>
    rw [bI (by simp)]
    unfold oA
    rw [du (by simp;omega),bA,hw,wZ s hs n (i+1) _ (by omega) (by simp;omega) (by omega),yZ,mV]
    congr 2
    show sm [_]++_=_
    simp only [sm,xC,List.map_nil,yM,nv]
    congr 1
    simp [NQ,hsm]
  ·rw [bI (by rw [oU];omega),vf (by omega)]
   simp
theorem CR(s:iZ)(hs:s.length≤1000):tZ s=some (s.map NQ):=by
 unfold tZ
 rw [show((0:Int))=((0:Nat):Int)from rfl,wZ s hs gK 0 [] (by unfold gK;omega) (gB _) (jz _)]
 rfl
theorem Et(s:iZ)(hs:s.length≤1000)(ha: ∀b∈s,Ql b=true):kc s=some (s.map NQ):=by
 unfold kc
 rw [bQ (by omega),Lib.toUpperD_ascii s (fun b hb=>Jz (ha b hb))]
 unfold Lib.toUpperA
 rw [show NQ=Lib.upperB from funext LZ]
def OK:iZ→Bool
 |[]=>false
 |b::_=>oj b.toNat
def rU(s:iZ):Bool:=(decide (1≤s.length)&&decide (s.length≤16)&&OK s)&&(!EF (s.map NQ)&&s.all Ql)
theorem E5{b:UInt8}{t:iZ}:zt (b::t) (0:Int)=some (b.toNat:Int):=by unfold zt;rfl
theorem uC(s:iZ):rb s=some (rU s):=by
 unfold rb rU
 cases s with
 |nil=>rfl
 |cons b t=>
  by_cases hl:(b::t).length≤16
  ·rw [bQ (by rw [show((b::t)==([]:iZ))=false from rfl,we,xX,D1];omega),E5,bA]
   have hb:=b.toNat_lt
   rw [show IntKind.i32.wrap (b.toNat:Int)=(b.toNat:Int) by rw [IntKind.wrap_i32];omega,vB,bA,bA]
   have e0:(decide (1≤(b::t).length)&&decide ((b::t).length≤16)&&OK (b::t))=oj b.toNat:=by
    rw [qQ (show 1≤(b::t).length by simp),qQ hl];rfl
   rw [e0]
   cases hsm:oj b.toNat with
   |false=>rfl
   |true=>
    have hr:=Hx (b::t) ((b::t).length+1) 0 (by omega)
    rw [sa]at hr
    have hT:kc (b::t)=some (Lib.toUpperD (b::t)):=by unfold kc;rw [bQ (by omega)]
    simp only [tF,Bw,nt]
    cases ha:(b::t).all Ql with
    |true=>
     rw [Et (b::t) (by omega) (fun c hc=>m3.1 ha c hc),bA,xP,bA,bA]
     unfold Hy
     rw [hr,ha]
     cases EF ((b::t).map NQ)<;>rfl
    |false=>
     rw [hT,bA,xP,bA,bA]
     unfold Hy
     rw [hr,ha]
     cases EF (Lib.toUpperD (b::t))<;>simp
  ·rw [bI (by rw [show((b::t)==([]:iZ))=false from rfl,we,xX,D1,Classical.not_not];omega)]
   rw [qb hl]
   simp
theorem zT(s:iZ)(hs:s.length≤1000): ∀(n i:Nat),s.length<i+n→i≤s.length→nB s n (i:Int)=some ((s.drop i).all Ql)
 |0,i,h,h2=>by omega
 |n+1,i,h,h2=>by
  unfold nB
  by_cases hi:i<s.length
  ·rw [bQ (by rw [oU];omega)]
   have e:zt s (i:Int)=some ((s[i]).toNat:Int):=by
    unfold zt
    rw [cK,nP hi];rfl
   have hw:IntKind.i64.wrap ((i:Int)+1)=((i+1:Nat):Int):=by rw [D0];omega
   simp only [e,bA,s7,CQ,Pt,hw]
   rw [zT s hs n (i+1) (by omega) (by omega),ut hi,yI]
   have e2:Ql s[i]=(oj (s[i]).toNat||vL (s[i]).toNat||(s[i]).toNat==95):=rfl
   rw [e2]
   cases h1:vL (s[i]).toNat<;>cases h2:oj (s[i]).toNat<;>cases h3:((s[i]).toNat==95)<;>simp
  ·rw [bI (by rw [oU];omega),vf (by omega)]
   rfl
theorem vV(s:iZ):qz s=some (rU s):=by
 unfold qz rU
 cases s with
 |nil=>rfl
 |cons b t=>
  by_cases hl:(b::t).length≤16
  ·rw [bQ (by rw [xX,Bool.or_eq_false_iff,D1,D1];simp at hl ⊢;omega),E5,bA,s7,bA,bA]
   have e0:(decide (1≤(b::t).length)&&decide ((b::t).length≤16)&&OK (b::t))=oj b.toNat:=by
    rw [qQ (show 1≤(b::t).length by simp),qQ hl];rfl
   rw [e0]
   cases hsm:oj b.toNat with
   |false=>rfl
   |true=>
    simp only [tF,Bw,nt]
    rw [CR _ (by omega),bA,BK,bA,bA,show((0:Int))=((0:Nat):Int)from rfl,zT _ (by omega) gK 0 (by unfold gK;omega) (jz _),sa]
    cases EF ((b::t).map NQ)<;>simp
  ·rw [bI (by rw [xX,Bool.or_eq_false_iff,D1,D1];omega)]
   rw [qb hl]
   simp

def wM(k:Int):Bool:=k==1||k==2||k==3
theorem BO(k:Int): ∃r,sI k=some r∧(r==([]:iZ))= !wM k:=by
 have g0:dC TU ((0:Nat):Int)=some ⟨[98,111,111,108],1⟩:=rfl
 have g1:dC TU ((0+1:Nat):Int)=some ⟨[105,110,116],2⟩:=rfl
 have g2:dC TU ((0+1+1:Nat):Int)=some ⟨[116,101,120,116],3⟩:=rfl
 unfold sI
 by_cases h1:k=1
 ·subst h1;exact⟨_,by simp only [km,g0,bA];rfl,rfl⟩
 by_cases h2:k=2
 ·subst h2;exact⟨_,by simp only [km,g0,g1,bA];rfl,rfl⟩
 by_cases h3:k=3
 ·subst h3;exact⟨_,by simp only [km,g0,g1,g2,bA];rfl,rfl⟩
 have n1:((1:Int)==k)=false:=by simpa using Ne.symm h1
 have n2:((2:Int)==k)=false:=by simpa using Ne.symm h2
 have n3:((3:Int)==k)=false:=by simpa using Ne.symm h3
 refine⟨[],?_,?_⟩
 ·simp only [km,g0,g1,g2,bA,n1,n2,n3];rfl
 ·simp [wM,h1,h2,h3]
theorem Ed(k:Int): ∃r,vw k=some r∧(r==([]:iZ))= !wM k:=by
 unfold vw
 by_cases h1:k=1
 ·subst h1;exact⟨_,rfl,rfl⟩
 by_cases h2:k=2
 ·subst h2;exact⟨_,rfl,rfl⟩
 by_cases h3:k=3
 ·subst h3;exact⟨_,rfl,rfl⟩
 exact⟨[],by simp [h1,h2,h3],by simp [wM,h1,h2,h3]⟩
def Gl(p:List bL)(x:bL):Bool:=p.any fun y=>y.Name==x.Name
def Nk:List bL→List bL→Bool
 |_,[]=>true
 |p,x::t=>(!Gl p x&&rU x.Name)&&Nk (p++[x]) t
def J5:List bL→List bL→Bool
 |_,[]=>true
 |p,x::t=>(rU x.Name&&wM x.Kind&& !Gl p x)&&J5 (p++[x]) t
theorem Lx: ∀(t p:List bL),J5 p t=(Nk p t&&t.all fun x=>wM x.Kind)
 |[],_=>rfl
 |x::t,p=>by
  unfold J5 Nk
  rw [Lx t (p++[x]),yI]
  cases Gl p x<;>cases rU x.Name<;>cases wM x.Kind<;>simp
theorem OJ(x:bL)(t:List bL): ∀(p:List bL) (i:Nat),∃k:Nat,dd (fC fJ x.Name) (p++x::t) i=some ((i+k:Nat):Int)∧(k !=p.length)=Gl p x
 |[],i=>⟨0,by unfold dd;simp [fC,fJ],rfl⟩
 |y::p,i=>by
  rw [yM]
  unfold dd
  rw [show fC fJ x.Name y=some (y.Name==x.Name)from rfl,bA]
  cases h:(y.Name==x.Name)with
  |true=>exact⟨0,rfl,by unfold Gl;rw [vU,h];rfl⟩
  |false=>
   obtain⟨k,h1,h2⟩:=OJ x t p (i+1)
   refine⟨k+1,by rw [bI (by simp),h1];congr 2;omega,?_⟩
   unfold Gl at h2 ⊢
   rw [vU,h,we,←h2,kb]
   rw [xu];simp
theorem VO(x:bL)(p t:List bL): ∃k:Int,j9 (p++x::t) fJ x.Name=some (k,true)∧(k !=(p.length:Int))=Gl p x:=by
 obtain⟨k,h1,h2⟩:=OJ x t p 0
 refine⟨(k:Int),?_,?_⟩
 ·unfold j9 gp
  rw [h1,bA,pj]
  have e1:max (k:Int) 0=(k:Int):=by omega
  have e2:decide ((0:Int)≤(k:Int))=true:=qQ (by omega)
  rw [e1,e2]
 ·rw [←h2,xu];simp;omega
theorem SM: ∀(t p:List bL),gx (p++t) fJ t p.length=some (Nk p t)
 |[],p=>rfl
 |x::t,p=>by
  unfold gx
  obtain⟨k,h1,h2⟩:=VO x p t
  rw [show fJ x=some x.Name from rfl,bA,h1,bA]
  simp only [h2,bA,uC]
  unfold Nk
  have ih:=SM t (p++[x])
  rw [mV,List.singleton_append,mt,List.length_singleton]at ih
  rw [ih]
  cases Gl p x<;>cases rU x.Name<;>simp
theorem F8(l:List bL):mS l fJ=some (Nk [] l):=SM l []
theorem zq(t:bU): ∀(l:List bL) (ok:Bool),gY t l ok=fZ t t.Keys 0 (ok&&l.all fun x=>wM x.Kind)
 |[],ok=>by unfold gY;simp
 |x::l,ok=>by
  unfold gY
  obtain⟨r,h1,h2⟩:=BO x.Kind
  cases ok with
  |false=>
   rw [bI (by simp),bA,zq t l];simp
  |true=>
   rw [bQ rfl,h1,bA,bA,zq t l,h2,yI];simp
def KQ(n:Nat):Option Int→List Int→Bool
 |_,[]=>true
 |o,k::t=>(decide (0≤k)&&decide (k<(n:Int))&&(o.all fun j=>decide (j<k)))&&KQ n (some k) t
theorem GW(n:Nat)(o:Option Int)(k:Int)(t:List Int):KQ n o (k::t)=((decide (0≤k)&&decide (k<(n:Int))&&(o.all fun j=>decide (j<k)))&&KQ n (some k) t):=rfl
def ER(l:List Int):Nat→Option Int
 |0=>none
 |i+1=>l[i]?
theorem zf{l:List Int}(h:i<l.length):ER l (i+1)=some l[i]:=nP h
theorem H3{l:List Int}(h:i+1≤l.length)(hl:l.length≤100000):dC l (IntKind.i64.wrap (((i+1:Nat):Int)-1))=some l[i]:=by
 rw [show IntKind.i64.wrap (((i+1:Nat):Int)-1)=(i:Int) by rw [D0];omega,cK,nP (by omega)]
theorem KT(t:bU)(hl:t.Keys.length≤100000): ∀(n i:Nat) (ok:Bool),t.Keys.length-i=n→i≤t.Keys.length→fZ t (t.Keys.drop i) i ok=some (if ok&&KQ t.Columns.length (ER t.Keys i) (t.Keys.drop i)then 0 else 211)
 |0,i,ok,h,hi=>by
  rw [vf (by omega)]
  unfold fZ KQ
  cases ok<;>rfl
 |n+1,i,ok,h,hi=>by
  have hlt:i<t.Keys.length:=by omega
  rw [ut hlt,GW]
  unfold fZ
  have ih:=KT t hl n (i+1)
  rw [zf hlt]at ih
  cases ok with
  |false=>
   simp only [Ew,uK,qa,bA]
   rw [ih false (by omega) (by omega)];simp
  |true=>
   simp only [nQ]
   by_cases h1:(0:Int)≤t.Keys[i]
   ·by_cases h2:t.Keys[i]<(t.Columns.length:Int)
    ·rw [bQ (by rw [qQ h1,qQ h2];rfl),qQ h1,qQ h2]
     cases i with
     |zero=>
      rw [bI (by simp),bA,bA,ih true (by omega) (by omega)]
      simp [ER]
     |succ j=>
      rw [bQ (by simp;omega),H3 (by omega) hl,bA,bA,bA,ih _ (by omega) (by omega),zf (by omega)]
      simp [Option.all]
    ·rw [bI (by rw [qb h2];simp),bA,ih false (by omega) (by omega),qb h2];simp
   ·rw [bI (by rw [qb h1];simp),bA,ih false (by omega) (by omega),qb h1];simp
theorem HA(t:bU)(hl:t.Keys.length≤100000): ∀(n i:Nat),t.Keys.length<i+n→i≤t.Keys.length→kx t n (i:Int)=some (KQ t.Columns.length (ER t.Keys i) (t.Keys.drop i))
 |0,i,h,hi=>by omega
 |n+1,i,h,hi=>by
  unfold kx
  by_cases hlt:i<t.Keys.length
  ·have hw:IntKind.i64.wrap ((i:Int)+1)=((i+1:Nat):Int):=by rw [D0];omega
   have ih:=HA t hl n (i+1) (by omega) (by omega)
   rw [zf hlt]at ih
   rw [bQ (by rw [oU];omega),cK,nP hlt,bA,hw,ih,ut hlt,GW]
   by_cases h1:(0:Int)≤t.Keys[i]
   ·by_cases h2:t.Keys[i]<(t.Columns.length:Int)
    ·rw [bQ (by rw [qb (show¬t.Keys[i]<0 by omega),qb (show¬(t.Columns.length:Int)≤t.Keys[i] by omega)];rfl),qQ h1,qQ h2]
     cases i with
     |zero=>
      rw [bI (by simp)]
      simp [ER]
     |succ j=>
      rw [bQ (by rw [oU];omega),H3 (by omega) hl,zf (show j<t.Keys.length by omega)]
      simp only [bA,Option.all,nQ]
      by_cases h3:t.Keys[j]<t.Keys[j+1]
      ·rw [qQ h3,qb (show¬t.Keys[j+1]≤t.Keys[j] by omega)];simp
      ·rw [qb h3,qQ (show t.Keys[j+1]≤t.Keys[j] by omega)];simp
    ·rw [bI (by rw [qQ (show(t.Columns.length:Int)≤t.Keys[i] by omega)];simp),qb h2];simp
   ·rw [bI (by rw [qQ (show t.Keys[i]<0 by omega)];simp),qb h1];simp
  ·rw [bI (by rw [oU];omega),vf (by omega)];rfl
def uv(t:bU):Bool:=(rU t.Name&&decide (1≤t.Columns.length)&&decide (t.Columns.length≤4))&&(J5 [] t.Columns&&KQ t.Columns.length none t.Keys)
theorem Ev(t:bU)(hl:t.Keys.length≤100000):np t=some (if uv t then 0 else 211):=by
 unfold np uv
 rw [uC,bA,Lx]
 have key:=KT t hl t.Keys.length 0
 rw [sa]at key
 have e1:decide ((1:Int)≤(t.Columns.length:Int))=decide (1≤t.Columns.length):=by rw [By];omega
 have e2:decide ((t.Columns.length:Int)≤(4:Int))=decide (t.Columns.length≤4):=by rw [By];omega
 rw [e1,e2]
 cases h:(rU t.Name&&decide (1≤t.Columns.length)&&decide (t.Columns.length≤4))with
 |false=>
  rw [bI (by simp),bA,zq,key _ rfl (jz _)];simp
 |true=>
  rw [bQ rfl,F8,bA,bA,zq,key _ rfl (jz _)]
  simp [ER]
theorem EP(t:bU)(nx:Int→Option Bool)(i:Nat)(hi:i<t.Columns.length)(hn:t.Columns.length≤4)(e:bL): ∀(n k:Nat),i<k+n→k≤i→ky t nx (i:Int) e n (k:Int)=if((t.Columns.take i).drop k).any (fun y=>y.Name==e.Name)then some false else nx ((i+1:Nat):Int)
 |0,k,h,hk=>by omega
 |n+1,k,h,hk=>by
  unfold ky
  by_cases hlt:k<i
  ·have hw:IntKind.i64.wrap ((k:Int)+1)=((k+1:Nat):Int):=by rw [D0];omega
   have hl2:k<(t.Columns.take i).length:=by simp;omega
   rw [bQ (by rw [oU];omega),cK,nP (by omega),bA,hw,EP t nx i hi hn e n (k+1) (by omega) (by omega),ut hl2,vU,List.getElem_take]
   cases (t.Columns[k].Name==e.Name)<;>simp
  ·have hw:IntKind.i64.wrap ((i:Int)+1)=((i+1:Nat):Int):=by rw [D0];omega
   rw [bI (by rw [oU];omega),hw,vf (by simp;omega)]
   simp
theorem KC(t:bU)(hn:t.Columns.length≤4)(hl:t.Keys.length≤100000): ∀(n i:Nat),t.Columns.length<i+n→i≤t.Columns.length→iY t n (i:Int)=some (J5 (t.Columns.take i) (t.Columns.drop i)&&KQ t.Columns.length none t.Keys)
 |0,i,h,hi=>by omega
 |n+1,i,h,hi=>by
  unfold iY
  by_cases hlt:i<t.Columns.length
  ·obtain⟨r,h1,h2⟩:=Ed t.Columns[i].Kind
   have ih:=KC t hn hl n (i+1) (by omega) (by omega)
   rw [bQ (by rw [oU];omega),cK,nP hlt,bA,vV,bA,h1,show((0:Int))=((0:Nat):Int)from rfl,EP t _ i hlt hn _ gK 0 (by unfold gK;omega) (jz _),ih,sa,ut hlt,NJ hlt,show∀p x t,J5 p (x::t)=((rU x.Name&&wM x.Kind&& !Gl p x)&&J5 (p++[x]) t)from fun _ _ _=>rfl]
   simp only [bA,h2]
   show _=some ((rU t.Columns[i].Name&&wM t.Columns[i].Kind&& !((t.Columns.take i).any fun y=>y.Name==t.Columns[i].Name))&&_&&_)
   cases rU t.Columns[i].Name<;>cases wM t.Columns[i].Kind<;>cases ((t.Columns.take i).any fun y=>y.Name==t.Columns[i].Name)<;>simp
  ·rw [bI (by rw [oU];omega),show((0:Int))=((0:Nat):Int)from rfl,HA t hl gK 0 (by unfold gK;omega) (jz _),vf (show t.Columns.length≤i by omega),sa]
   rfl
theorem Eu(t:bU)(hl:t.Keys.length≤100000):oZ t=some (uv t):=by
 unfold oZ uv
 rw [vV,bA]
 by_cases h1:1≤t.Columns.length
 ·by_cases h2:t.Columns.length≤4
  ·rw [qb (show¬(t.Columns.length:Int)<1 by omega),qb (show¬(4:Int)<(t.Columns.length:Int) by omega),qQ h1,qQ h2,show((0:Int))=((0:Nat):Int)from rfl,KC t h2 hl gK 0 (by unfold gK;omega) (jz _),List.take_zero,sa]
   cases rU t.Name<;>simp
  ·rw [qQ (show(4:Int)<(t.Columns.length:Int) by omega),qb h2];simp
 ·rw [qQ (show(t.Columns.length:Int)<1 by omega),qb h1];simp
def Gk(p:List bU)(x:bU):Bool:=p.any fun y=>y.Name==x.Name
def Jb:List bU→List bU→Bool
 |_,[]=>true
 |p,x::t=>(!Gk p x&&rU x.Name)&&Jb (p++[x]) t
def Ja:List bU→List bU→Bool
 |_,[]=>true
 |p,x::t=>(uv x&& !Gk p x)&&Ja (p++[x]) t
theorem NZ{t:bU}(h:uv t=true):rU t.Name=true:=by
 unfold uv at h
 simp only [iz]at h
 exact h.1.1.1
theorem BT: ∀(t p:List bU),Ja p t=(t.all uv&&Jb p t)
 |[],_=>rfl
 |x::t,p=>by
  unfold Ja Jb
  rw [BT t (p++[x]),yI]
  cases h:uv x with
  |false=>simp
  |true=>
   rw [NZ h]
   cases Gk p x<;>simp
theorem OH(x:bU)(t:List bU): ∀(p:List bU) (i:Nat),∃k:Nat,cE (fR gb x.Name) (p++x::t) i=some ((i+k:Nat):Int)∧(k !=p.length)=Gk p x
 |[],i=>⟨0,by unfold cE;simp [fR,gb],rfl⟩
 |y::p,i=>by
  rw [yM]
  unfold cE
  rw [show fR gb x.Name y=some (y.Name==x.Name)from rfl,bA]
  cases h:(y.Name==x.Name)with
  |true=>exact⟨0,rfl,by unfold Gk;rw [vU,h];rfl⟩
  |false=>
   obtain⟨k,h1,h2⟩:=OH x t p (i+1)
   refine⟨k+1,by rw [bI (by simp),h1];congr 2;omega,?_⟩
   unfold Gk at h2 ⊢
   rw [vU,h,we,←h2,kb]
   rw [xu];simp
theorem VN(x:bU)(p t:List bU): ∃k:Int,kK (p++x::t) gb x.Name=some (k,true)∧(k !=(p.length:Int))=Gk p x:=by
 obtain⟨k,h1,h2⟩:=OH x t p 0
 refine⟨(k:Int),?_,?_⟩
 ·unfold kK eb
  rw [h1,bA,pj]
  have e1:max (k:Int) 0=(k:Int):=by omega
  have e2:decide ((0:Int)≤(k:Int))=true:=qQ (by omega)
  rw [e1,e2]
 ·rw [←h2,xu];simp;omega
theorem SL: ∀(t p:List bU),gO (p++t) gb t p.length=some (Jb p t)
 |[],p=>rfl
 |x::t,p=>by
  unfold gO
  obtain⟨k,h1,h2⟩:=VN x p t
  rw [show gb x=some x.Name from rfl,bA,h1,bA]
  simp only [h2,bA,uC]
  unfold Jb
  have ih:=SL t (p++[x])
  rw [mV,List.singleton_append,mt,List.length_singleton]at ih
  rw [ih]
  cases Gk p x<;>cases rU x.Name<;>simp
def qM(c:bG):Prop:= ∀t∈c.Tables,t.Keys.length≤100000
theorem zJ: ∀(l:List bU) (i:Nat),(∀t∈l,t.Keys.length≤100000)→ ∃j:Int,cE lO l i=some j∧decide (0≤j)= !l.all uv
 |[],i,_=>⟨-1,rfl,rfl⟩
 |x::l,i,h=>by
  unfold cE
  rw [show lO x=some (!uv x) by unfold lO;rw [Ev x (h x (oc ..)),bA];cases uv x<;>rfl,bA,yI]
  cases hx:uv x with
  |false=>exact⟨(i:Int),rfl,by simp⟩
  |true=>
   obtain⟨j,h1,h2⟩:=zJ l (i+1) fun t ht=>h t (oS _ ht)
   exact⟨j,by simpa using h1,by simpa using h2⟩
def AH(c:bG):Bool:=decide (c.Tables.length≤4)&&Ja [] c.Tables
theorem u6{c:bG}(h:qM c):rz c=some (if AH c then 0 else 210):=by
 unfold rz AH
 obtain⟨j,h1,h2⟩:=zJ c.Tables 0 h
 have h3:nm c.Tables gb=some (Jb [] c.Tables):=SL c.Tables []
 rw [BT]
 by_cases hl:c.Tables.length≤4
 ·rw [qb (show¬(4:Int)<(c.Tables.length:Int) by omega),qQ hl]
  unfold ge eb
  rw [h1,h3]
  simp only [Bw,nt,bA,h2]
  cases c.Tables.all uv<;>cases Jb [] c.Tables<;>rfl
 ·rw [qQ (show(4:Int)<(c.Tables.length:Int) by omega),qb hl];rfl
theorem EO(c:bG)(nx:Int→Option Bool)(i:Nat)(hi:i<c.Tables.length)(hn:c.Tables.length≤4)(e:bU): ∀(n k:Nat),i<k+n→k≤i→oz c nx (i:Int) e n (k:Int)=if((c.Tables.take i).drop k).any (fun y=>y.Name==e.Name)then some false else nx ((i+1:Nat):Int)
 |0,k,h,hk=>by omega
 |n+1,k,h,hk=>by
  unfold oz
  by_cases hlt:k<i
  ·have hw:IntKind.i64.wrap ((k:Int)+1)=((k+1:Nat):Int):=by rw [D0];omega
   have hl2:k<(c.Tables.take i).length:=by simp;omega
   rw [bQ (by rw [oU];omega),cK,nP (by omega),bA,hw,EO c nx i hi hn e n (k+1) (by omega) (by omega),ut hl2,vU,List.getElem_take]
   cases (c.Tables[k].Name==e.Name)<;>simp
  ·have hw:IntKind.i64.wrap ((i:Int)+1)=((i+1:Nat):Int):=by rw [D0];omega
   rw [bI (by rw [oU];omega),hw,vf (by simp;omega)]
   simp
theorem KA(c:bG)(hn:c.Tables.length≤4)(hc:qM c): ∀(n i:Nat),c.Tables.length<i+n→i≤c.Tables.length→mH c n (i:Int)=some (Ja (c.Tables.take i) (c.Tables.drop i))
 |0,i,h,hi=>by omega
 |n+1,i,h,hi=>by
  unfold mH
  by_cases hlt:i<c.Tables.length
  ·have ih:=KA c hn hc n (i+1) (by omega) (by omega)
   rw [bQ (by rw [oU];omega),cK,nP hlt,bA,Eu _ (hc _ (yS hlt)),bA,show((0:Int))=((0:Nat):Int)from rfl,EO c _ i hlt hn _ gK 0 (by unfold gK;omega) (jz _),ih,sa,ut hlt,NJ hlt,show∀p x t,Ja p (x::t)=((uv x&& !Gk p x)&&Ja (p++[x]) t)from fun _ _ _=>rfl]
   show _=some ((uv c.Tables[i]&& !((c.Tables.take i).any fun y=>y.Name==c.Tables[i].Name))&&_)
   cases uv c.Tables[i]<;>cases ((c.Tables.take i).any fun y=>y.Name==c.Tables[i].Name)<;>simp
  ·rw [bI (by rw [oU];omega),vf (show c.Tables.length≤i by omega)]
   rfl
theorem CO{c:bG}(h:qM c):tW c=some (AH c):=by
 unfold tW AH
 by_cases hl:c.Tables.length≤4
 ·rw [bI (by rw [oU];omega),show((0:Int))=((0:Nat):Int)from rfl,KA c hl h gK 0 (by unfold gK;omega) (jz _),qQ hl]
  rfl
 ·rw [bQ (by rw [oU];omega),qb hl];rfl
end Go.Proofs.YtmogpgcfognefaaGreatDoor

