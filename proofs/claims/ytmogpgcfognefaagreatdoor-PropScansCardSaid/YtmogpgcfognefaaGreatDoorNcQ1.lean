/- cd of this claim: Q0, K1, K2, K3, K4, Q1, Q2, Q3, K5, K6, K7, K8, K9, Q4, L1, L2, L3, L4. -/
import Derived.Test.YtmogpgcfognefaaGreatDoorNcF
import Derived.KernelRfl
import Derived.Test.YtmogpgcfognefaaGreatDoorNcV4
import Derived.Laws.RangeAny
import Derived.Shelf.Strings.CaseAny
set_option linter.all false
namespace Go.Proofs.YtmogpgcfognefaaGreatDoor
open Go

abbrev oS:=List aQ
variable{α:Type}{xs:List α}
theorem fh{ys:List α}(h:xs.length+ys.length≤68719476736):mC xs ys=some (xs++ys):=c8 h
def kW(v:aQ):Bool:=(km v).getD false
theorem xY(v:aQ):km v=some (kW v):=by
 unfold kW km
 repeat' split
 all_goals rfl
variable{n:bH}
theorem oe(v:aQ):lE v=some (if kW v then 0 else 120):=by
 obtain⟨k,n,u,s⟩:=v
 unfold kW km lE rt
 simp only [gV,lX,lW,lV]
 by_cases h0:k=0
 ·subst h0;simp
  repeat' split
  all_goals simp_all
 by_cases h1:k=1
 ·subst h1
  by_cases n0:n=0
  ·subst n0;simp
   repeat' split
   all_goals simp_all
  by_cases n1:n=1
  ·subst n1;simp
   repeat' split
   all_goals simp_all
  simp [n0,n1]
 by_cases h2:k=2
 ·subst h2;simp
  repeat' split
  all_goals simp_all
 by_cases h3:k=3
 ·subst h3;simp
  repeat' split
  all_goals simp_all
 by_cases h4:k=4
 ·subst h4;simp
  repeat' split
  all_goals simp_all
 simp [h0,h1,h2,h3,h4]
def ov(r:oS):Bool:=decide (r.length≤16)&&r.all kW
theorem xS(v:aQ):nk v=some (!kW v):=by
 unfold nk
 rw [oe]
 cases kW v<;>rfl
variable{i:Nat}{r:oS}{t:bj}
theorem vO{f:aQ→Option Bool}{g:aQ→Bool}(hf: ∀v,f v=some (g v))(l:oS):ek l f=some (l.any g):=by
 have key: ∀(l:oS) (i:Nat),(cj f l i).bind (fun r=>some (decide ((0:Int)≤r)))=some (l.any g):=by
  intro l
  induction l with
  |nil=>intro i;simp [cj]
  |cons e t ih=>intro i;simp only [cj,hf,ce];cases h:g e<;>simp [ih,h]
 exact key l 0
theorem Bh(r:oS):sq r=some (ov r):=by
 unfold sq ov
 rw [vO (g:=fun v=> !kW v) xS]
 by_cases h:r.length≤16
 ·rw [c8 (by simp;omega)]
  simp [h,List.all_eq_not_any_not]
 ·rw [dg (by simp;omega)]
  simp [h]

structure Cmp{α:Type}(f:α→α→Int):Prop where
 rng: ∀x y,f x y= -1∨f x y=0∨f x y=1
 anti: ∀x y,f y x= -f x y
 eq: ∀x y,f x y=0↔x=y
 trans: ∀x y z,f x y≤0→f y z≤0→f x z≤0
def key(v:aQ):Int×Int×Int×gQ:=(v.Kind,v.N,v.U,v.S)

section
variable{f:α→α→Int}
def ltB(f:α→α→Int)(x y:α):Bool:=decide (f x y<0)
def OR(f:α→α→Int)(l:List α):List α:=Mh (ltB f) l
def put(f:α→α→Int)(x:α):List α→List α
 |[]=>[x]
 |y::l=>if f x y<0 then x::y::l else y::put f x l
end
def sa{α:Type} [DecidableEq α]:α→List α→List α
 |_,[]=>[]
 |p,x::t=>if x=p then sa x t else x::sa x t
theorem Dg [DecidableEq α](p:α):sa p []=[]:=by unfold sa;rfl
theorem AK [DecidableEq α]{p x:α}(h:x=p)(t:List α):sa p (x::t)=sa x t:=by
 conv=>lhs;unfold sa
 rw [c8 h]
theorem FY [DecidableEq α]{p x:α}(h: ¬x=p)(t:List α):sa p (x::t)=x::sa x t:=by
 conv=>lhs;unfold sa
 rw [dg h]
def FX{α:Type} [DecidableEq α]:List α→List α
 |[]=>[]
 |x::t=>x::sa x t
theorem yT{α:Type} [DecidableEq α]: ∀(p:α) (l:List α) (z:α),z∈sa p l→z∈l
 |p,x::t,z,h=>by
  unfold sa at h
  split at h
  ·exact kR _ (yT x t z h)
  ·rcases gz.1 h with rfl|h
   ·exact kU ..
   ·exact kR _ (yT x t z h)
theorem yp{α:Type} [DecidableEq α]: ∀(p:α) (l:List α) (z:α),z∈l→z=p∨z∈sa p l
 |p,x::t,z,h=>by
  unfold sa
  by_cases hx:x=p
  ·rw [c8 hx]
   rcases gz.1 h with rfl|h
   ·exact .inl hx
   ·rcases yp x t z h with h|h
    ·exact .inl (h.trans hx)
    ·exact .inr h
  ·rw [dg hx]
   rcases gz.1 h with rfl|h
   ·exact .inr (kU ..)
   ·rcases yp x t z h with h|h
    ·exact .inr (by rw [h];exact kU ..)
    ·exact .inr (kR _ h)
theorem G9 [DecidableEq α](l:List α)(z:α):z∈FX l↔z∈l:=by
 cases l with
 |nil=>exact nf
 |cons x t=>
  constructor
  ·intro h
   rcases gz.1 h with rfl|h
   ·exact kU ..
   ·exact kR _ (yT x t z h)
  ·intro h
   rcases gz.1 h with rfl|h
   ·exact kU ..
   ·rcases yp x t z h with rfl|h
    ·exact kU ..
    ·exact kR _ h

def Me(n:Nat):Int:=if 8000<n then 3 else 0
def Ka:List (List oS)→Nat→Nat
 |[],n=>n
 |l::t,n=>Ka t (max n l.length)
def yX(l:List oS):Bool:=l.all ov
def Ov(ls:List (List oS)):Int:=if ls.all yX then Me (Ka ls 0)else 150
theorem Bi(ls:List (List oS)):vx ls=some (Ov ls):=by
 have Hc: ∀(l:List oS) (nx:Int→Option Int) (e:List oS) (n:Int),lY nx e n l=if yX l then nx (max n (e.length:Int))else some 150:=by
  intro l
  induction l with
  |nil=>intro nx e n;rfl
  |cons r t ih=>
   intro nx e n
   have ih' :=ih nx e n
   unfold lY
   rw [Bh]
   simp only [ce]
   rw [ih']
   unfold yX
   cases h:ov r<;>simp [h]
 have key: ∀(ls:List (List oS)) (n:Nat),iz ls (n:Int)=some (if ls.all yX then Me (Ka ls n)else 150):=by
  intro ls
  induction ls with
  |nil=>
   intro n
   show iz [] (n:Int)=some (Me n)
   unfold iz Me
   by_cases h:8000<n
   ·rw [c8 (by simp;omega),c8 h]
   ·rw [dg (by simp;omega),dg h]
  |cons l t ih=>
   intro n
   unfold iz
   rw [Hc,show max (n:Int) (l.length:Int)=((max n l.length:Nat):Int)from by omega,ih]
   show _=some (if(yX l&&t.all yX)=true then Me (Ka t (max n l.length))else 150)
   cases h:yX l<;>simp
 exact key ls 0
theorem Ix{n:Nat}(h:n≤8000):Me n=0:=by unfold Me;rw [dg (by omega)]
theorem JN(l:List oS)(h:l.length≤8000):Ov [l]=if yX l then 0 else 150:=by
 show(if(yX l&&true)=true then Me (max 0 l.length)else 150)=_
 rw [Ix (by omega),Bool.and_true]
structure Small(l:List oS):Prop where
 len:l.length≤8000
 row: ∀r∈l,r.length≤1000
theorem j8{n:Int}(h: -9223372036854775808≤n)(h2:n≤9223372036854775807):IntKind.i64.wrap n=n:=by rw [IntKind.wrap_i64];omega
theorem sj{l m:Nat}(h:l≤m)(h2:m≤xs.length):cG xs (l:Int) (m:Int)=some ((xs.take m).drop l):=by
 unfold cG
 rw [c8 (by omega)]
 simp

def py(n:Nat):Bool:=decide (97≤n)&&decide (n≤122)
def vJ(n:Nat):Bool:=decide (48≤n)&&decide (n≤57)
def Oh(n:Nat):Bool:=py n||vJ n||n==95
def M3(b:UInt8):Bool:=Oh b.toNat
theorem uA(n:Nat):pX (n:Int)=some (py n):=by
 unfold pX py
 congr 2<;>(rw [zS];omega)
theorem Bv(n:Nat):sA (n:Int)=some (vJ n):=by
 unfold sA vJ
 congr 2<;>(rw [zS];omega)
theorem Et{n:Nat}(h:Oh n=true):n<128:=by
 unfold Oh py vJ at h
 simp only [vU,mA,ny,vP]at h
 omega
theorem N7(n:Nat):((n:Int) !=(95:Int))= !(n==95):=by
 rw [bne,xi]
 simp only [wA,beq_eq_false_iff_ne,ne_eq]
 omega
theorem I6{s:gQ}(h:i<s.length)(hb:(s[i]).toNat<128):nW s i=((s[i]).toNat,1):=
 decode_ascii ⟨s.toArray⟩ i (show i<(ByteArray.mk s.toArray).size from h) hb
theorem Hs{s:gQ}(h:i<s.length)(hb: ¬(s[i]).toNat<128):128≤(nW s i).1:=
 (decode_high ⟨s.toArray⟩ i (show i<(ByteArray.mk s.toArray).size from h) (show 128≤(s[i]).toNat by omega)).1
theorem CD(s:gQ): ∀(f i:Nat),s.length<i+f→lb (ou s f i)=some ((s.drop i).all M3)
 |0,i,h=>by
  rw [t7 (by omega)];rfl
 |f+1,i,h=>by
  unfold ou
  by_cases hi:i<s.length
  ·rw [c8 hi]
   unfold lb
   simp only [Bv,uA,ce,N7]
   rw [tk hi,zi]
   by_cases hb:(s[i]).toNat<128
   ·rw [I6 hi hb]
    simp only []
    have ih:=CD s f (i+1) (by omega)
    have e:M3 s[i]=(py (s[i]).toNat||vJ (s[i]).toNat||(s[i]).toNat==95):=rfl
    rw [e]
    cases h1:vJ (s[i]).toNat<;>cases h2:py (s[i]).toNat<;>cases h3:((s[i]).toNat==95)<;>simp [ih]
   ·have hh:=Hs hi hb
    have e:M3 s[i]=false:=by
     cases ho:M3 s[i]with
     |false=>rfl
     |true=>exact absurd (Et ho) hb
    have e2:Oh (nW s i).1=false:=by
     cases ho:Oh (nW s i).1 with
     |false=>rfl
     |true=>have:=Et ho;omega
    rw [e,Bool.false_and]
    unfold Oh at e2
    simp only [Bool.or_eq_false_iff]at e2
    obtain⟨⟨h2,h1⟩,h3⟩:=e2
    simp [h1,h2,h3]
  ·rw [dg hi,t7 (by omega)];rfl
def Fe(s:gQ):Bool:=O7.any fun w=>w==s
theorem DB(v:gQ): ∀(l:List gQ) (i:Nat),∃j:Int,dB v l i=some j∧decide (0≤j)=l.any fun w=>w==v
 |[],i=>⟨-1,rfl,rfl⟩
 |e::l,i=>by
  unfold dB
  by_cases h:v=e
  ·subst h
   exact⟨(i:Int),by simp,by simp⟩
  ·obtain⟨j,h1,h2⟩:=DB v l (i+1)
   exact⟨j,by simp [h,h1],by simp [h2,Ne.symm h]⟩
theorem s4(s:gQ):qB s=some (Fe s):=by
 unfold qB gh gW
 obtain⟨j,h1,h2⟩:=DB s O7 0
 rw [h1]
 simp only [ce,h2]
 rfl
def Oe(b:UInt8):UInt8:=UInt8.ofNat (if py b.toNat then b.toNat-32 else b.toNat)
theorem Gw: ∀b:UInt8,Oe b=Lib.upperB b:=by
 intro b
 have key: ∀i:Fin 256,Oe (UInt8.ofNat i.val)=Lib.upperB (UInt8.ofNat i.val):=by decide+kernel
 have:=key ⟨b.toNat,b.toNat_lt⟩
 simpa using this
theorem zP(s:gQ)(hs:s.length≤1000)(ha: ∀b∈s,M3 b=true):gA s=some (s.map Oe):=by
 unfold gA
 rw [c8 (by omega),Lib.toUpperD_ascii s (fun b hb=>Et (ha b hb))]
 unfold Lib.toUpperA
 rw [show Oe=Lib.upperB from funext Gw]
def Mj:gQ→Bool
 |[]=>false
 |b::_=>py b.toNat
def rN(s:gQ):Bool:=(decide (1≤s.length)&&decide (s.length≤16)&&Mj s)&&(!Fe (s.map Oe)&&s.all M3)
theorem Hf{b:UInt8}{t:gQ}:Bx (b::t) (0:Int)=some (b.toNat:Int):=by unfold Bx;rfl
variable{c:aT}
theorem pC(s:gQ):mP s=some (rN s):=by
 unfold mP rN
 cases s with
 |nil=>rfl
 |cons b t=>
  by_cases hl:(b::t).length≤16
  ·rw [c8 (by rw [show((b::t)==([]:gQ))=false from rfl,tf,wA,DN];omega),Hf,ce]
   have hb:=b.toNat_lt
   rw [show IntKind.i32.wrap (b.toNat:Int)=(b.toNat:Int) by rw [IntKind.wrap_i32];omega,uA,ce,ce]
   have e0:(decide (1≤(b::t).length)&&decide ((b::t).length≤16)&&Mj (b::t))=py b.toNat:=by
    rw [rm (show 1≤(b::t).length by simp),rm hl];rfl
   rw [e0]
   cases hsm:py b.toNat with
   |false=>rfl
   |true=>
    have hr:=CD (b::t) ((b::t).length+1) 0 (by omega)
    rw [pu]at hr
    have hT:gA (b::t)=some (Lib.toUpperD (b::t)):=by unfold gA;rw [c8 (by omega)]
    simp only [te,Bool.not_false,oT]
    cases ha:(b::t).all M3 with
    |true=>
     rw [zP (b::t) (by omega) (fun c hc=>kg.1 ha c hc),ce,s4,ce,ce]
     unfold CE
     rw [hr,ha]
     cases Fe ((b::t).map Oe)<;>rfl
    |false=>
     rw [hT,ce,s4,ce,ce]
     unfold CE
     rw [hr,ha]
     cases Fe (Lib.toUpperD (b::t))<;>simp
  ·rw [dg (by rw [show((b::t)==([]:gQ))=false from rfl,tf,wA,DN,Classical.not_not];omega)]
   rw [qg hl]
   simp

def As(k:Int):Bool:=k==1||k==2||k==3
theorem wN(k:Int): ∃r,nX k=some r∧(r==([]:gQ))= !As k:=by
 have g0:ea Nk ((0:Nat):Int)=some ⟨[98,111,111,108],1⟩:=rfl
 have g1:ea Nk ((0+1:Nat):Int)=some ⟨[105,110,116],2⟩:=rfl
 have g2:ea Nk ((0+1+1:Nat):Int)=some ⟨[116,101,120,116],3⟩:=rfl
 unfold nX
 by_cases h1:k=1
 ·subst h1;exact⟨_,by simp only [gE,g0,ce];rfl,rfl⟩
 by_cases h2:k=2
 ·subst h2;exact⟨_,by simp only [gE,g0,g1,ce];rfl,rfl⟩
 by_cases h3:k=3
 ·subst h3;exact⟨_,by simp only [gE,g0,g1,g2,ce];rfl,rfl⟩
 have n1:((1:Int)==k)=false:=by simpa using Ne.symm h1
 have n2:((2:Int)==k)=false:=by simpa using Ne.symm h2
 have n3:((3:Int)==k)=false:=by simpa using Ne.symm h3
 refine⟨[],?_,?_⟩
 ·simp only [gE,g0,g1,g2,ce,n1,n2,n3];rfl
 ·simp [As,h1,h2,h3]
def C0(p:List aU)(x:aU):Bool:=p.any fun y=>y.Name==x.Name
def Ht:List aU→List aU→Bool
 |_,[]=>true
 |p,x::t=>(!C0 p x&&rN x.Name)&&Ht (p++[x]) t
def LP:List aU→List aU→Bool
 |_,[]=>true
 |p,x::t=>(rN x.Name&&As x.Kind&& !C0 p x)&&LP (p++[x]) t
theorem F0: ∀(t p:List aU),LP p t=(Ht p t&&t.all fun x=>As x.Kind)
 |[],_=>rfl
 |x::t,p=>by
  unfold LP Ht
  rw [F0 t (p++[x]),zi]
  cases C0 p x<;>cases rN x.Name<;>cases As x.Kind<;>simp
theorem IH(x:aU)(t:List aU): ∀(p:List aU) (i:Nat),∃k:Nat,b8 (dD dI x.Name) (p++x::t) i=some ((i+k:Nat):Int)∧(k !=p.length)=C0 p x
 |[],i=>⟨0,by unfold b8;simp [dD,dI],rfl⟩
 |y::p,i=>by
  rw [zT]
  unfold b8
  rw [show dD dI x.Name y=some (y.Name==x.Name)from rfl,ce]
  cases h:(y.Name==x.Name)with
  |true=>exact⟨0,rfl,by unfold C0;rw [List.any_cons,h];rfl⟩
  |false=>
   obtain⟨k,h1,h2⟩:=IH x t p (i+1)
   refine⟨k+1,by rw [dg (by simp),h1];congr 2;omega,?_⟩
   unfold C0 at h2 ⊢
   rw [List.any_cons,h,tf,←h2,lm]
   rw [xi];simp
theorem Pe(x:aU)(p t:List aU): ∃k:Int,gx (p++x::t) dI x.Name=some (k,true)∧(k !=(p.length:Int))=C0 p x:=by
 obtain⟨k,h1,h2⟩:=IH x t p 0
 refine⟨(k:Int),?_,?_⟩
 ·unfold gx ed
  rw [h1,ce,pt]
  have e1:max (k:Int) 0=(k:Int):=by omega
  have e2:decide ((0:Int)≤(k:Int))=true:=rm (by omega)
  rw [e1,e2]
 ·rw [←h2,xi];simp;omega
theorem Mc: ∀(t p:List aU),eh (p++t) dI t p.length=some (Ht p t)
 |[],p=>rfl
 |x::t,p=>by
  unfold eh
  obtain⟨k,h1,h2⟩:=Pe x p t
  rw [show dI x=some x.Name from rfl,ce,h1,ce]
  simp only [h2,ce,pC]
  unfold Ht
  have ih:=Mc t (p++[x])
  rw [ri,List.singleton_append,kh,List.length_singleton]at ih
  rw [ih]
  cases C0 p x<;>cases rN x.Name<;>simp
theorem Bp(l:List aU):jh l dI=some (Ht [] l):=Mc l []
theorem uC(t:bj): ∀(l:List aU) (ok:Bool),eJ t l ok=dW t t.Keys 0 (ok&&l.all fun x=>As x.Kind)
 |[],ok=>by unfold eJ;simp
 |x::l,ok=>by
  unfold eJ
  obtain⟨r,h1,h2⟩:=wN x.Kind
  cases ok with
  |false=>
   rw [dg (by simp),ce,uC t l];simp
  |true=>
   rw [c8 rfl,h1,ce,ce,uC t l,h2,zi];simp
def KQ(n:Nat):Option Int→List Int→Bool
 |_,[]=>true
 |o,k::t=>(decide (0≤k)&&decide (k<(n:Int))&&(o.all fun j=>decide (j<k)))&&KQ n (some k) t
theorem xf(n:Nat)(o:Option Int)(k:Int)(t:List Int):KQ n o (k::t)=((decide (0≤k)&&decide (k<(n:Int))&&(o.all fun j=>decide (j<k)))&&KQ n (some k) t):=rfl
def Ft(l:List Int):Nat→Option Int
 |0=>none
 |i+1=>l[i]?
theorem CL{l:List Int}(h:i<l.length):Ft l (i+1)=some l[i]:=nK h
theorem II{l:List Int}(h:i+1≤l.length)(hl:l.length≤100000):ea l (IntKind.i64.wrap (((i+1:Nat):Int)-1))=some l[i]:=by
 rw [show IntKind.i64.wrap (((i+1:Nat):Int)-1)=(i:Int) by rw [IntKind.wrap_i64];omega,dy,nK (by omega)]
theorem FD(t:bj)(hl:t.Keys.length≤100000): ∀(n i:Nat) (ok:Bool),t.Keys.length-i=n→i≤t.Keys.length→dW t (t.Keys.drop i) i ok=some (if ok&&KQ t.Columns.length (Ft t.Keys i) (t.Keys.drop i)then 0 else 211)
 |0,i,ok,h,hi=>by
  rw [t7 (by omega)]
  unfold dW KQ
  cases ok<;>rfl
 |n+1,i,ok,h,hi=>by
  have hlt:i<t.Keys.length:=by omega
  rw [tk hlt,xf]
  unfold dW
  have ih:=FD t hl n (i+1)
  rw [CL hlt]at ih
  cases ok with
  |false=>
   simp only [Bool.false_and,tZ,pr,ce]
   rw [ih false (by omega) (by omega)];simp
  |true=>
   simp only [vS]
   by_cases h1:(0:Int)≤t.Keys[i]
   ·by_cases h2:t.Keys[i]<(t.Columns.length:Int)
    ·rw [c8 (by rw [rm h1,rm h2];rfl),rm h1,rm h2]
     cases i with
     |zero=>
      rw [dg (by simp),ce,ce,ih true (by omega) (by omega)]
      simp [Ft]
     |succ j=>
      rw [c8 (by simp;omega),II (by omega) hl,ce,ce,ce,ih _ (by omega) (by omega),CL (by omega)]
      simp [Option.all]
    ·rw [dg (by rw [qg h2];simp),ce,ih false (by omega) (by omega),qg h2];simp
   ·rw [dg (by rw [qg h1];simp),ce,ih false (by omega) (by omega),qg h1];simp
def oh(t:bj):Bool:=(rN t.Name&&decide (1≤t.Columns.length)&&decide (t.Columns.length≤4))&&(LP [] t.Columns&&KQ t.Columns.length none t.Keys)
theorem zQ(t:bj)(hl:t.Keys.length≤100000):jE t=some (if oh t then 0 else 211):=by
 unfold jE oh
 rw [pC,ce,F0]
 have key:=FD t hl t.Keys.length 0
 rw [pu]at key
 have e1:decide ((1:Int)≤(t.Columns.length:Int))=decide (1≤t.Columns.length):=by rw [zS];omega
 have e2:decide ((t.Columns.length:Int)≤(4:Int))=decide (t.Columns.length≤4):=by rw [zS];omega
 rw [e1,e2]
 cases h:(rN t.Name&&decide (1≤t.Columns.length)&&decide (t.Columns.length≤4))with
 |false=>
  rw [dg (by simp),ce,uC,key _ rfl (jr _)];simp
 |true=>
  rw [c8 rfl,Bp,ce,ce,uC,key _ rfl (jr _)]
  simp [Ft]
def Bz(p:List bj)(x:bj):Bool:=p.any fun y=>y.Name==x.Name
def DZ:List bj→List bj→Bool
 |_,[]=>true
 |p,x::t=>(!Bz p x&&rN x.Name)&&DZ (p++[x]) t
def GB:List bj→List bj→Bool
 |_,[]=>true
 |p,x::t=>(oh x&& !Bz p x)&&GB (p++[x]) t
theorem H8(h:oh t=true):rN t.Name=true:=by
 unfold oh at h
 simp only [mA]at h
 exact h.1.1.1
theorem Bd: ∀(t p:List bj),GB p t=(t.all oh&&DZ p t)
 |[],_=>rfl
 |x::t,p=>by
  unfold GB DZ
  rw [Bd t (p++[x]),zi]
  cases h:oh x with
  |false=>simp
  |true=>
   rw [H8 h]
   cases Bz p x<;>simp
theorem IG(x:bj)(t:List bj): ∀(p:List bj) (i:Nat),∃k:Nat,bI (dM d3 x.Name) (p++x::t) i=some ((i+k:Nat):Int)∧(k !=p.length)=Bz p x
 |[],i=>⟨0,by unfold bI;simp [dM,d3],rfl⟩
 |y::p,i=>by
  rw [zT]
  unfold bI
  rw [show dM d3 x.Name y=some (y.Name==x.Name)from rfl,ce]
  cases h:(y.Name==x.Name)with
  |true=>exact⟨0,rfl,by unfold Bz;rw [List.any_cons,h];rfl⟩
  |false=>
   obtain⟨k,h1,h2⟩:=IG x t p (i+1)
   refine⟨k+1,by rw [dg (by simp),h1];congr 2;omega,?_⟩
   unfold Bz at h2 ⊢
   rw [List.any_cons,h,tf,←h2,lm]
   rw [xi];simp
theorem Pd(x:bj)(p t:List bj): ∃k:Int,gO (p++x::t) d3 x.Name=some (k,true)∧(k !=(p.length:Int))=Bz p x:=by
 obtain⟨k,h1,h2⟩:=IG x t p 0
 refine⟨(k:Int),?_,?_⟩
 ·unfold gO cQ
  rw [h1,ce,pt]
  have e1:max (k:Int) 0=(k:Int):=by omega
  have e2:decide ((0:Int)≤(k:Int))=true:=rm (by omega)
  rw [e1,e2]
 ·rw [←h2,xi];simp;omega
theorem Mb: ∀(t p:List bj),ez (p++t) d3 t p.length=some (DZ p t)
 |[],p=>rfl
 |x::t,p=>by
  unfold ez
  obtain⟨k,h1,h2⟩:=Pd x p t
  rw [show d3 x=some x.Name from rfl,ce,h1,ce]
  simp only [h2,ce,pC]
  unfold DZ
  have ih:=Mb t (p++[x])
  rw [ri,List.singleton_append,kh,List.length_singleton]at ih
  rw [ih]
  cases Bz p x<;>cases rN x.Name<;>simp
def mq(c:aT):Prop:= ∀t∈c.Tables,t.Keys.length≤100000
theorem uV: ∀(l:List bj) (i:Nat),(∀t∈l,t.Keys.length≤100000)→ ∃j:Int,bI iu l i=some j∧decide (0≤j)= !l.all oh
 |[],i,_=>⟨-1,rfl,rfl⟩
 |x::l,i,h=>by
  unfold bI
  rw [show iu x=some (!oh x) by unfold iu;rw [zQ x (h x (kU ..)),ce];cases oh x<;>rfl,ce,zi]
  cases hx:oh x with
  |false=>exact⟨(i:Int),rfl,by simp⟩
  |true=>
   obtain⟨j,h1,h2⟩:=uV l (i+1) fun t ht=>h t (kR _ ht)
   exact⟨j,by simpa using h1,by simpa using h2⟩
def uX(c:aT):Bool:=decide (c.Tables.length≤4)&&GB [] c.Tables
theorem mY(h:mq c):jW c=some (if uX c then 0 else 210):=by
 unfold jW uX
 obtain⟨j,h1,h2⟩:=uV c.Tables 0 h
 have h3:jD c.Tables d3=some (DZ [] c.Tables):=Mb c.Tables []
 rw [Bd]
 by_cases hl:c.Tables.length≤4
 ·rw [qg (show¬(4:Int)<(c.Tables.length:Int) by omega),rm hl]
  unfold d8 cQ
  rw [h1,h3]
  simp only [Bool.not_false,oT,ce,h2]
  cases c.Tables.all oh<;>cases DZ [] c.Tables<;>rfl
 ·rw [rm (show(4:Int)<(c.Tables.length:Int) by omega),qg hl];rfl

def BC:List aQ→List Int→Bool
 |v::t,k::ks=>(kW v&&(v.Kind==0||v.Kind==k))&&BC t ks
 |[],_=>true
 |_::_,[]=>false
def vF(kinds:List Int)(r:oS):Bool:=decide (r.length=kinds.length)&&BC r kinds
def wj(rows:List oS)(kinds:List Int):Bool:=decide (rows.length≤12)&&rows.all (vF kinds)
theorem yD(kinds:List Int)(nx:Option Bool)(r:oS)(hl:r.length=kinds.length): ∀(n i:Nat),r.length-i=n→i≤r.length→jf kinds nx (r.drop i) i=if BC (r.drop i) (kinds.drop i)then nx else some false
 |0,i,h,hi=>by
  rw [t7 (by omega)]
  unfold jf BC
  rfl
 |n+1,i,h,hi=>by
  have hlt:i<r.length:=by omega
  have hlk:i<kinds.length:=by omega
  rw [tk hlt,tk hlk]
  unfold jf BC
  rw [yD kinds nx r hl n (i+1) (by omega) (by omega),oe,ce,dy,nK hlk]
  simp only [ce]
  have e:(r[i].Kind==0)= !(r[i].Kind !=0):=by rw [bne,Bool.not_not]
  have e2:(r[i].Kind==kinds[i])= !(r[i].Kind !=kinds[i]):=by rw [bne,Bool.not_not]
  rw [e,e2]
  cases kW r[i]<;>cases (r[i].Kind !=0)<;>cases (r[i].Kind !=kinds[i])<;>simp
variable{a:Nat}
theorem OW(a b:Nat):((a:Int) !=(b:Int))= !decide (a=b):=by
 rw [xi];simp;omega
theorem yE(kinds:List Int): ∀rows:List oS,jg kinds rows=some (rows.all (vF kinds))
 |[]=>rfl
 |r::t=>by
  unfold jg
  rw [OW,zi,vF,yE kinds t]
  by_cases h:r.length=kinds.length
  ·have:=yD kinds (some (t.all (vF kinds))) r h r.length 0 rfl (jr _)
   rw [pu,pu]at this
   rw [rm h,this]
   cases BC r kinds<;>simp
  ·rw [qg h];simp
theorem yS(rows:List oS)(kinds:List Int):pj rows kinds=some (wj rows kinds):=by
 unfold pj wj
 rw [yE]
 by_cases h:rows.length≤12
 ·rw [dg (by rw [ny];omega),rm h];rfl
 ·rw [c8 (by rw [ny];omega),qg h];rfl
def ke(t:bj):List Int:=t.Columns.map fun x=>x.Kind
def yV:List bj→List (List oS)→Bool
 |t::ts,r::rs=>wj r (ke t)&&yV ts rs
 |_,_=>true
theorem F3(h:uX c=true): ∀t∈c.Tables,oh t=true:=by
 unfold uX at h
 rw [Bd]at h
 simp only [mA,ny]at h
 exact kg.1 h.2.1
theorem ru(h:oh t=true):t.Columns.length≤4:=by
 unfold oh at h
 simp only [mA,ny]at h
 exact h.1.2
theorem ra(b:pq)(nx:Nat→Option Int)(i:Nat)(hi:i<b.Tables.length): ∀(l:List aU) (ks:List Int),ks.length+l.length≤1000→fD b nx i l ks=if wj b.Tables[i] (ks++l.map fun x=>x.Kind)then nx (i+1)else some 250
 |[],ks,h=>by
  unfold fD
  rw [dy,nK hi,ce,yS,ce,List.map_nil,zj]
  cases wj b.Tables[i] ks<;>rfl
 |x::l,ks,h=>by
  unfold fD
  rw [lm]at h
  rw [fh (by simp;omega),ce,ra b nx i hi l (ks++[x.Kind]) (by simp;omega),zR,ri]
  rfl
theorem rb(b:pq)(ts:List bj)(hts: ∀t∈ts,t.Columns.length≤4)(hb:b.Tables.length=ts.length): ∀(n i:Nat),ts.length-i=n→i≤ts.length→eF b (ts.drop i) i=some (if yV (ts.drop i) (b.Tables.drop i)then 0 else 250)
 |0,i,h,hi=>by
  rw [t7 (by omega)]
  unfold eF yV
  rfl
 |n+1,i,h,hi=>by
  have hlt:i<ts.length:=by omega
  have hlb:i<b.Tables.length:=by omega
  rw [tk hlt,tk hlb]
  unfold eF yV
  have hcl:=hts _ (Cf hlt)
  rw [ra b _ i hlb _ [] (by simp;omega),rh,rb b ts hts hb n (i+1) (by omega) (by omega)]
  show(if wj b.Tables[i] (ke ts[i])then _ else _)=_
  cases wj b.Tables[i] (ke ts[i])<;>simp
def Fm(c:aT)(b:pq):Bool:=decide (b.Tables.length=c.Tables.length)&&yV c.Tables b.Tables
def Je(c:aT)(b:pq):Bool:=uX c&&Fm c b
theorem B6(h:mq c)(b:pq):kP c b=some (if uX c then(if Fm c b then 0 else 250)else 210):=by
 unfold kP
 rw [mY h,ce]
 cases hc:uX c with
 |false=>rfl
 |true=>
  simp only [oT,OW]
  unfold Fm
  by_cases hl:b.Tables.length=c.Tables.length
  ·have:=rb b c.Tables (fun t ht=>ru (F3 hc t ht)) hl c.Tables.length 0 rfl (jr _)
   rw [pu,pu]at this
   rw [rm hl,this]
   simp
  ·rw [qg hl];simp
theorem yF: ∀{r:oS} {ks:List Int},BC r ks=true→ ∀v∈r,kW v=true
 |[],_,_,v,hv=>by cases hv
 |w::r,k::ks,h,v,hv=>by
  unfold BC at h
  simp only [mA]at h
  rcases gz.1 hv with rfl|hv
  ·exact h.1.1
  ·exact yF h.2 v hv
 |_::_,[],h,_,_=>by unfold BC at h;cases h
theorem tK{ks:List Int}(h:vF ks r=true)(hk:ks.length≤16):ov r=true∧r.length=ks.length:=by
 unfold vF at h
 simp only [mA,ny]at h
 refine⟨?_,h.1⟩
 unfold ov
 simp only [mA,ny]
 exact⟨by omega,kg.2 fun v hv=>yF h.2 v hv⟩


def nb(r:Nat):Nat:=if r%2=1 then(r/2)^^^2197175160 else r/2
def J7(r:Nat):Nat:=nb (nb (nb (nb (nb (nb (nb (nb r)))))))
theorem H0(a b:Nat):(a^^^b)/2=(a/2)^^^(b/2):=by
 have:=Nat.xor_div_two_pow (a:=a) (b:=b) (n:=1)
 simpa using this
theorem HY(a b:Nat):(a^^^b)%2=(a%2+b%2)%2:=by
 have h:=Nat.xor_mod_two_pow (a:=a) (b:=b) (n:=1)
 rw [Nat.pow_one]at h
 rw [h]
 rcases Nat.mod_two_eq_zero_or_one a with h1|h1<;>rcases Nat.mod_two_eq_zero_or_one b with h2|h2<;>rw [h1,h2]<;>rfl
theorem o8(a b:Nat):nb (a^^^2*b)=nb a^^^b:=by
 unfold nb
 rw [HY,H0]
 have h1:2*b/2=b:=by omega
 have h2:(a%2+2*b%2)%2=a%2:=by omega
 rw [h1,h2]
 by_cases h:a%2=1
 ·rw [c8 h,c8 h,Nat.xor_assoc,Nat.xor_assoc,Nat.xor_comm b]
 ·rw [dg h,dg h]
theorem Iu(a b:Nat):J7 (a^^^256*b)=J7 a^^^b:=by
 unfold J7
 rw [show 256*b=2*(128*b) by omega,o8,show 128*b=2*(64*b) by omega,o8,show 64*b=2*(32*b) by omega,o8,show 32*b=2*(16*b) by omega,o8,
  show 16*b=2*(8*b) by omega,o8,show 8*b=2*(4*b) by omega,o8,show 4*b=2*(2*b) by omega,o8,o8]
theorem Gt(x:Nat):x=(x%256)^^^256*(x/256):=by
 apply Nat.eq_of_testBit_eq
 intro i
 rw [Nat.testBit_xor,show(256:Nat)=2^8 from rfl,Nat.testBit_mod_two_pow,Nat.testBit_two_pow_mul,Nat.testBit_div_two_pow]
 by_cases h:i<8
 ·simp [h,show¬8≤i by omega]
 ·simp [h,show 8≤i by omega,show 8+(i-8)=i by omega]
theorem Iv(x:Nat):J7 x=J7 (x%256)^^^(x/256):=by
 conv=>lhs;rw [Gt x,Iu]
theorem xy{b:Nat}(ha:a<4294967296)(hb:b<4294967296):a^^^b<4294967296:=Nat.xor_lt_two_pow (n:=32) ha hb
theorem we(ha:a<4294967296):nb a<4294967296:=by
 unfold nb
 split
 ·exact xy (by omega) (by omega)
 ·omega
theorem Is(ha:a<4294967296):J7 a<4294967296:=we (we (we (we (we (we (we (we ha)))))))
theorem H1(n:Nat)(h:n<4294967296):IntKind.u32.wrap (n:Int)=(n:Int):=by rw [IntKind.wrap_u32];omega
theorem L8(a b:Nat)(ha:a<4294967296)(hb:b<4294967296):mp .xor .u32 (a:Int) (b:Int)=((a^^^b:Nat):Int):=by
 show IntKind.u32.wrap ((BitVec.ofInt 32 (a:Int)^^^BitVec.ofInt 32 (b:Int)).toNat:Int)=_
 rw [show(BitVec.ofInt 32 (a:Int)^^^BitVec.ofInt 32 (b:Int)).toNat=a^^^b by
  rw [BitVec.toNat_xor,BitVec.toNat_ofInt,BitVec.toNat_ofInt]
  congr 1<;>omega]
 exact H1 _ (xy ha hb)
theorem Rm(a b:Nat)(ha:a<256)(hb:b<256):mp .xor .u8 (a:Int) (b:Int)=((a^^^b:Nat):Int):=by
 show IntKind.u8.wrap ((BitVec.ofInt 8 (a:Int)^^^BitVec.ofInt 8 (b:Int)).toNat:Int)=_
 rw [show(BitVec.ofInt 8 (a:Int)^^^BitVec.ofInt 8 (b:Int)).toNat=a^^^b by
  rw [BitVec.toNat_xor,BitVec.toNat_ofInt,BitVec.toNat_ofInt]
  congr 1<;>omega]
 have:=Nat.xor_lt_two_pow (n:=8) ha hb
 rw [IntKind.wrap_u8];omega
def Dh(r c:Nat):Nat:=J7 (r^^^c)
theorem I7{r c:Nat}(hr:r<4294967296)(hc:c<256):Dh r c<4294967296:=Is (xy hr (by omega))
def JA(b:List Int):Prop:= ∀x∈b,∃c:Nat,c<256∧x=(c:Int)
def cA:List Int:=(List.range 256).map fun i=>(J7 i:Int)
theorem Ic:vn=some cA:=by kernel_rfl
theorem GA(i:Nat)(h:i<256):ea cA (i:Int)=some (J7 i:Int):=by
 rw [dy]
 unfold cA
 rw [xo,List.getElem?_range h]
 rfl
theorem JV(r c:Nat)(hr:r<4294967296)(hc:c<256):o3 (r:Int) cA (c:Int)=some (Dh r c:Int):=by
 unfold o3
 have hx:(r%256)^^^c<256:=Nat.xor_lt_two_pow (n:=8) (by omega) hc
 rw [show IntKind.u8.wrap (r:Int)=((r%256:Nat):Int) by rw [IntKind.wrap_u8];omega,Rm _ _ (by omega) hc,GA _ hx,ce]
 rw [show((r:Int).fdiv (2^(min (Int.toNat (8:Int)) IntKind.u32.bits)))=((r/256:Nat):Int) by
  show(r:Int).fdiv 256=_
  rw [Int.fdiv_eq_ediv_of_nonneg _ (by omega)];omega]
 rw [L8 _ _ (by omega) (Is (by omega))]
 unfold Dh
 rw [Iv (r^^^c)]
 rw [show(r^^^c)%256=(r%256)^^^c by
  have:=Nat.xor_mod_two_pow (a:=r) (b:=c) (n:=8)
  rw [show(256:Nat)=2^8 from rfl,this,Nat.mod_eq_of_lt (a:=c) (by omega)]]
 rw [show(r^^^c)/256=r/256 by
  have:=Nat.xor_div_two_pow (a:=r) (b:=c) (n:=8)
  rw [show(256:Nat)=2^8 from rfl,this,Nat.div_eq_of_lt (a:=c) (by omega),Nat.xor_zero],Nat.xor_comm]
theorem z7: ∀(b:List Int) (r:Nat),r<4294967296→JA b→ ∃s:Nat,s<4294967296∧s=b.foldl (fun r x=>Dh r x.toNat) r∧kH cA b (r:Int)=some (((4294967295-s:Nat)):Int)
 |[],r,hr,_=>⟨r,hr,rfl,by
  unfold kH
  rw [show(if IntKind.u32.signed then -1 else IntKind.u32.max)=((4294967295:Nat):Int)from rfl,L8 _ _ (by omega) hr]
  congr 2
  have h:=BitVec.allOnes_xor (x:=BitVec.ofNat 32 r)
  have h2:=congrArg BitVec.toNat h
  rw [BitVec.toNat_xor,BitVec.toNat_not,BitVec.toNat_allOnes,BitVec.toNat_ofNat,Nat.mod_eq_of_lt (a:=r) (by omega)]at h2
  exact h2⟩
 |x::b,r,hr,hb=>by
  obtain⟨c,hc,rfl⟩:=hb _ (kU ..)
  obtain⟨s,h1,h2,h3⟩:=z7 b (Dh r c) (I7 hr hc) (fun y hy=>hb y (kR _ hy))
  refine⟨s,h1,h2,?_⟩
  unfold kH
  rw [JV r c hr hc,ce]
  exact h3
theorem oM{a b:List Int}(ha:JA a)(hb:JA b):JA (a++b):=fun x hx=>(xj.1 hx).elim (ha x) (hb x)
theorem F4(n:Int):JA [IntKind.u8.wrap n]:=fun x hx=>by
 rw [wB.1 hx]
 exact⟨(IntKind.u8.wrap n).toNat,by rw [IntKind.wrap_u8];omega,by rw [IntKind.wrap_u8];omega⟩
theorem Hw(s:gQ):JA (mo s):=fun x hx=>by
 obtain⟨b,_,rfl⟩:=List.mem_map.1 hx
 exact⟨b.toNat,UInt8.toNat_lt b,rfl⟩
def qR(n:Nat):Nat→List Int
 |0=>[]
 |k+1=>((n/256^k%256:Nat):Int)::qR n k
theorem oL(n:Nat): ∀k,(qR n k).length=k
 |0=>rfl
 |k+1=>by simp [qR,oL n k]
theorem tR(n:Nat): ∀k,JA (qR n k)
 |0=>fun x hx=>by cases hx
 |k+1=>fun x hx=>by
  rcases gz.1 hx with rfl|hx
  ·exact⟨_,Nat.mod_lt _ (by omega),rfl⟩
  ·exact tR n k x hx
theorem q0(n:Nat): ∀(k f:Nat) (b:List Int),k≤8→k<f→b.length+k≤1000000→jO (n:Int) f b (8*(k:Int)-8)=some (b++qR n k)
 |0,f+1,b,_,_,_=>by
  unfold jO
  rw [dg (by simp)]
  simp [qR]
 |k+1,f+1,b,hk,hf,hb=>by
  unfold jO
  rw [show(8*((k+1:Nat):Int)-8)=((8*k:Nat):Int) by omega,c8 (by rw [ny];omega),show Rg ((8*k:Nat):Int)=some ()from c8 (by omega),ce,fh (by simp;omega),ce]
  rw [show(n:Int).fdiv (2^(min (Int.toNat ((8*k:Nat):Int)) IntKind.u64.bits))=((n/256^k:Nat):Int) by
   rw [AZ,show IntKind.u64.bits=64 from rfl,tX (by omega),Int.fdiv_eq_ediv_of_nonneg _ (Int.pow_nonneg (by omega)),show(2:Int)^(8*k)=((256^k:Nat):Int) by rw [show(256:Nat)=2^8 from rfl,←Nat.pow_mul];norm_cast]
   rfl]
  rw [show IntKind.u8.wrap ((n/256^k:Nat):Int)=((n/256^k%256:Nat):Int) by rw [IntKind.wrap_u8];omega]
  rw [show IntKind.i64.wrap (((8*k:Nat):Int)-8)=8*(k:Int)-8 by rw [IntKind.wrap_i64];omega]
  rw [q0 n k f _ (by omega) (by omega) (by simp;omega),ri]
  rfl
theorem sX(b:List Int)(n:Nat)(hb:b.length≤100000):qr b (n:Int)=some (b++qR n 8):=
 q0 n 8 sP b (by omega) (by unfold sP;omega) (by omega)

def oF(r:oS)(c:List Int):Bool:=decide (c.length≤16)&&c.all fun e=>decide (0≤e)&&decide (e<(r.length:Int))
theorem qd{f:Int→Option Bool}{g:Int→Bool}(hf: ∀v,f v=some (g v)): ∀(l:List Int) (i:Nat),∃j:Int,dX f l i=some j∧decide (0≤j)=l.any g
 |[],i=>⟨-1,rfl,rfl⟩
 |e::l,i=>by
  unfold dX
  rw [hf,ce]
  cases h:g e with
  |true=>exact⟨(i:Int),by simp,by simp [h]⟩
  |false=>
   obtain⟨j,h1,h2⟩:=qd hf l (i+1)
   exact⟨j,by simpa using h1,by rw [h2];simp [h]⟩
theorem gI{f:Int→Option Bool}{g:Int→Bool}(hf: ∀v,f v=some (g v))(l:List Int):cg l f=some (l.any g):=by
 unfold cg iH
 obtain⟨j,h1,h2⟩:=qd hf l 0
 rw [h1,ce,h2]
theorem Ec(r:oS)(c:List Int):wR r c=some (oF r c):=by
 unfold wR oF
 rw [gI (f:=sr r) (g:=fun c=>(decide (c<(0:Int)))||(decide ((r.length:Int)≤c))) (fun v=>rfl)]
 by_cases h:c.length≤16
 ·rw [c8 (by rw [ny];omega),ce,ce,rm h,vS]
  congr 1
  induction c with
  |nil=>rfl
  |cons e c ih=>
   rw [List.any_cons,zi,Bool.not_or,ih (by simp at h;omega)]
   congr 1
   rw [xi];simp only [wA,Bool.or_eq_false_iff,mA,ny,DN];omega
 ·rw [dg (by rw [ny];omega),ce,qg h,Bool.false_and]
def Jf(r:oS)(c:List Int):Int:=if ov r then(if oF r c then 0 else 2)else 150
theorem Bj(r:oS)(c:List Int):ss [r] c=some (Jf r c):=by
 unfold ss Jf
 rw [Bi,JN [r] (by simp),ce,show yX [r]=ov r by simp [yX]]
 cases ov r with
 |false=>simp
 |true=>
  rw [c8 rfl,dg (by decide),gI (f:=o5) (g:=fun c=>decide (c<(0:Int))) (fun v=>rfl),c8 rfl]
  by_cases h:c.length≤16
  ·rw [c8 (by simp;omega),ce,ce]
   cases hn:c.any (fun c=>decide (c<(0:Int)))with
   |true=>
    rw [c8 rfl]
    have:oF r c=false:=by
     unfold oF
     rw [Bool.and_eq_false_iff];right
     rw [List.all_eq_false]
     obtain⟨e,h1,h2⟩:=wz.1 hn
     exact⟨e,h1,by simp at h2 ⊢;omega⟩
    rw [this];rfl
   |false=>
    rw [dg (by decide)]
    unfold nT
    rw [Ec,ce]
    cases oF r c<;>rfl
  ·rw [dg (by simp;omega),ce,c8 rfl]
   unfold oF
   rw [qg h];rfl

def OP(c:List Int)(r:oS):oS:=(uk r c).getD []

def O5(c:List Int)(r:oS):Nat:=((ul (OP c r)).getD 0).toNat
theorem OT{N:Nat}(h1:1≤N)(h2:N≤64):nz (IntKind.u32.wrap (N:Int))=some ():=by
 rw [H1 N (by omega)]
 unfold nz
 rw [dg (by omega)]
def part(c:List Int)(N i:Nat)(l:List oS):List oS:=l.filter fun r=>decide (O5 c r%N=i)

def M7(r:oS):Prop:= ∀v∈r,0≤v.U∧v.U<18446744073709551616
theorem GU{v:aQ}(h:kW v=true):v.S.length≤40:=by
 unfold kW km at h
 repeat' split at h
 all_goals simp_all
 omega
theorem Jo(n:Nat): ∀(l:List Int) (j:Int),KQ n (some j) l=true→0≤j→j<(n:Int)→(l.length:Int)+j+1≤(n:Int)
 |[],j,_,h0,h1=>by simp;omega
 |k::l,j,h,h0,h1=>by
  rw [xf]at h
  simp only [mA,ny,Option.all]at h
  have:=Jo n l k h.2 h.1.1.1 h.1.1.2
  rw [lm]
  omega
theorem LZ(n:Nat)(l:List Int)(h:KQ n none l=true):l.length≤n:=by
 cases l with
 |nil=>simp
 |cons k l=>
  rw [xf]at h
  simp only [mA,ny]at h
  have:=Jo n l k h.2 h.1.1.1 h.1.1.2
  rw [lm]
  omega
theorem Jn(n:Nat): ∀(l:List Int) (o:Option Int),KQ n o l=true→ ∀k∈l,0≤k∧k<(n:Int)
 |[],_,_,k,hk=>by cases hk
 |x::l,o,h,k,hk=>by
  rw [xf]at h
  simp only [mA,ny]at h
  rcases gz.1 hk with rfl|hk
  ·exact h.1.1
  ·exact Jn n l _ h.2 k hk
theorem Cs(h:oh t=true):KQ t.Columns.length none t.Keys=true:=by
 unfold oh at h
 simp only [mA]at h
 exact h.2.2
theorem Kc(h:oh t=true)(hr:vF (ke t) r=true):oF r t.Keys=true:=by
 have hl:=(tK hr (by have:=ru h;simp [ke];omega)).2
 unfold ke at hl
 rw [List.length_map]at hl
 have h1:=LZ _ _ (Cs h)
 have h2:=ru h
 unfold oF
 rw [mA,ny,kg]
 refine⟨by omega,fun k hk=>?_⟩
 have:=Jn _ _ _ (Cs h) k hk
 rw [mA,ny,ny]
 omega
theorem JP(h:oh t=true)(hr:vF (ke t) r=true)(hu:M7 r): ∀v∈r,v.S.length≤200∧0≤v.U∧v.U<18446744073709551616:=fun v hv=>by
 have h1:=(tK hr (by have:=ru h;simp [ke];omega)).1
 unfold ov at h1
 rw [mA,kg]at h1
 have:=GU (h1.2 v hv)
 exact⟨by omega,hu v hv⟩
theorem Iz(t:bj):((t.Keys.length:Int)==(0:Int))=decide (t.Keys=[]):=by
 cases t.Keys<;>simp
 omega
theorem Bo(h:oh t=true):uX (⟨[t]⟩:aT)=true:=by
 unfold uX GB GB Bz
 simp [h]
theorem mq.one(h:mq c)(ht:t∈c.Tables):mq (⟨[t]⟩:aT):=fun u hu=>by
 rw [wB.1 hu];exact h t ht
theorem Im(h:oh t=true)(r:oS):Je (⟨[t]⟩:aT) (⟨[[r]]⟩:pq)=vF (ke t) r:=by
 unfold Je Fm yV yV wj
 rw [Bo h]
 simp
theorem zB(hs:mq c)(ht:t∈c.Tables)(h:oh t=true)(r:oS):qy t r=some (vF (ke t) r):=by
 unfold qy
 rw [B6 (hs.one ht),Bo h,ce]
 have:=Im h r
 unfold Je at this
 rw [Bo h,vS]at this
 rw [this]
 cases vF (ke t) r<;>rfl

theorem iV{i j:Int}(l m:Nat)(hi:i=(l:Int))(hj:j=(m:Int))(h:l≤m)(h2:m≤xs.length):cG xs i j=some ((xs.take m).drop l):=by
 subst hi hj;exact sj h h2
theorem lz{i:Int}(k:Nat)(hi:i=(k:Int)):ea xs i=xs[k]? :=by subst hi;exact dy _ _
def tF(v:aQ):Bool:=kW v&&(v.Kind !=4)
theorem xz(v:aQ):oZ v=some (tF v):=by
 unfold oZ tF
 rw [oe]
 cases kW v<;>simp
theorem ox(v:aQ):rJ v=some (tF v):=by
 unfold rJ tF
 rw [xY]
 rfl
theorem CM{v:aQ}(h:tF v=true):0≤v.Kind∧v.Kind≤3:=by
 obtain⟨k,n,u,s⟩:=v
 unfold tF kW km at h
 simp only [mA,bne_iff_ne,ne_eq]at h
 obtain⟨h1,h2⟩:=h
 by_cases h0:k=0
 ·simp [h0]
 by_cases k1:k=1
 ·simp [k1]
 by_cases k2:k=2
 ·simp [k2]
 by_cases k3:k=3
 ·simp [k3]
 simp [h0,k1,k2,k3,h2]at h1
def pk(tag:Int):Option Nat:=if tag=1∨tag=2 then some 0 else if 4≤tag∧tag≤7 then some 1 else if 12≤tag∧tag≤23 then some 2 else none
def M0(tag:Int):Int:=match pk tag with
 |some k=>(k:Int)
 |none=> -1
theorem s6(tag:Int):mX tag=some (M0 tag):=by
 unfold mX M0 pk
 by_cases h1:tag=1∨tag=2
 ·rw [c8 h1,c8 (by simpa using h1)];rfl
 rw [dg h1,dg (by simpa using h1)]
 by_cases h2:4≤tag∧tag≤7
 ·rw [c8 h2,c8 (by simpa using h2)];rfl
 rw [dg h2,dg (by simpa using h2)]
 by_cases h3:12≤tag∧tag≤23
 ·rw [c8 h3,c8 (by simpa using h3)];rfl
 rw [dg h3,dg (by simpa using h3)]
def HO(n:bH):Bool:=(kJ n).getD false
theorem nB(n:bH):kJ n=some (HO n):=by
 unfold HO kJ
 rw [ox]
 split
 ·rfl
 ·split<;>rfl
theorem yM(n:bH):pg n=some (HO n):=by
 rw [←nB]
 unfold pg kJ
 rw [ox,xz]
inductive Tr where
 |lf (n:bH)
 |un (n:bH) (a:Tr)
 |bi (n:bH) (a b:Tr)
 deriving Inhabited
def Tr.size:Tr→Nat
 | .lf _=>1
 | .un _ a=>a.size+1
 | .bi _ a b=>a.size+b.size+1
def rk(n:bH)(l r:Int):bH:={n with L:=l,R:=r}
def Tr.flat:Tr→Nat→List bH
 | .lf n,_=>[rk n (-1) (-1)]
 | .un n a,s=>a.flat s++[rk n ((s+a.size:Nat)-1) (-1)]
 | .bi n a b,s=>a.flat s++b.flat (s+a.size)++[rk n ((s+a.size:Nat)-1) ((s+a.size+b.size:Nat)-1)]
def M8(k:Nat)(n:bH):Prop:=pk n.Tag=some k∧HO n=true∧n.L= -1∧n.R= -1
def Tr.wf:Tr→Prop
 | .lf n=>M8 0 n
 | .un n a=>M8 1 n∧a.wf
 | .bi n a b=>M8 2 n∧a.wf∧b.wf
theorem Tr.size_pos(t:Tr):0<t.size:=by cases t<;>simp [Tr.size]
theorem Tr.flat_len(t:Tr): ∀s,(t.flat s).length=t.size:=by
 induction t with
 |lf n=>intro s;rfl
 |un n a ih=>intro s;simp [Tr.flat,Tr.size,ih]
 |bi n a b iha ihb=>intro s;simp [Tr.flat,Tr.size,iha,ihb];omega
def cc:List Tr→Nat
 |[]=>0
 |t::st=>cc st+t.size
def q8:List Tr→List bH
 |[]=>[]
 |t::st=>q8 st++t.flat (cc st)
theorem Ax: ∀st:List Tr,(q8 st).length=cc st
 |[]=>rfl
 |t::st=>by simp [q8,cc,Ax st,t.flat_len]
theorem Ab: ∀st:List Tr,st.length≤cc st
 |[]=>fO _
 |t::st=>by have:=Ab st;have:=t.size_pos;simp [cc];omega
def push(st:List Tr)(n:bH):Option (List Tr):=
 match pk n.Tag,st with
 |some 0,st=>if HO n&&n.L== -1&&n.R== -1 then some (.lf (rk n (-1) (-1))::st)else none
 |some 1,a::st=>if HO n&&n.L==((cc st+a.size:Nat):Int)-1&&n.R== -1 then some (.un (rk n (-1) (-1)) a::st)else none
 |some 2,b::a::st=>if HO n&&n.L==((cc st+a.size:Nat):Int)-1&&n.R==((cc st+a.size+b.size:Nat):Int)-1 then some (.bi (rk n (-1) (-1)) a b::st)else none
 |_,_=>none
def uw:List bH→List Tr→Option (List Tr)
 |[],st=>some st
 |n::ns,st=>(push st n).bind (uw ns)
def Q9(st:List Tr):Prop:= ∀t∈st,t.wf
theorem Bk{l r:Int}(h:n.L=l)(h2:n.R=r):rk (rk n (-1) (-1)) l r=n:=by subst h h2;rfl
theorem GX{st st' :List Tr}(h:push st n=some st')(hw:Q9 st):q8 st' =q8 st++[n]∧cc st' =cc st+1∧Q9 st' :=by
 unfold push at h
 split at h
 ·rename_i k st0 hk
  split at h
  ·rename_i hc
   simp only [mA,vP]at hc
   obtain⟨⟨h1,h2⟩,h3⟩:=hc
   cases h
   refine⟨?_,rfl,fun t ht=>?_⟩
   ·simp only [q8,Tr.flat]
    rw [Bk h2 h3]
   ·rcases gz.1 ht with rfl|ht
    ·exact⟨hk,h1,rfl,rfl⟩
    ·exact hw t ht
  ·cases h
 ·rename_i k a st0 hk
  split at h
  ·rename_i hc
   simp only [mA,vP]at hc
   obtain⟨⟨h1,h2⟩,h3⟩:=hc
   cases h
   refine⟨?_,by simp [cc,Tr.size];omega,fun t ht=>?_⟩
   ·simp only [q8,Tr.flat]
    rw [Bk h2 h3,ri]
   ·rcases gz.1 ht with rfl|ht
    ·exact⟨⟨hk,h1,rfl,rfl⟩,hw a (kU ..)⟩
    ·exact hw t (kR _ ht)
  ·cases h
 ·rename_i k b a st0 hk
  split at h
  ·rename_i hc
   simp only [mA,vP]at hc
   obtain⟨⟨h1,h2⟩,h3⟩:=hc
   cases h
   refine⟨?_,by simp [cc,Tr.size];omega,fun t ht=>?_⟩
   ·simp only [q8,Tr.flat,cc]
    rw [Bk h2 h3]
    simp only [ri]
   ·rcases gz.1 ht with rfl|ht
    ·exact⟨⟨hk,h1,rfl,rfl⟩,hw a (kR _ (kU ..)),hw b (kU ..)⟩
    ·exact hw t (kR _ (kR _ ht))
  ·cases h
 ·cases h
variable{ns:List bH}
theorem tG: ∀{ns:List bH} {st st' :List Tr},uw ns st=some st' →Q9 st→q8 st' =q8 st++ns∧Q9 st'
 |[],st,st',h,hw=>by cases h;simp [hw]
 |n::ns,st,st',h,hw=>by
  unfold uw at h
  cases hp:push st n with
  |none=>rw [hp]at h;cases h
  |some st1=>
   rw [hp]at h
   obtain⟨h1,_,h3⟩:=GX hp hw
   obtain⟨h4,h5⟩:=tG (ns:=ns) h h3
   exact⟨by rw [h4,h1];simp,h5⟩
def tp(ns:List bH):Option Tr:=match uw ns []with
 |some [t]=>if ns.length≤1000 then some t else none
 |_=>none
theorem vW{t:Tr}(h:tp ns=some t):t.wf∧ns=t.flat 0∧t.size≤1000:=by
 unfold tp at h
 split at h
 ·rename_i t0 hp
  split at h
  ·rename_i hl
   cases h
   obtain⟨h1,h2⟩:=tG hp (fun t ht=>by cases ht)
   simp only [q8,cc,rh]at h1
   exact⟨h2 t (kU ..),h1.symm,by rw [←t.flat_len 0,h1];exact hl⟩
  ·cases h
 ·cases h
def fl:Tr→Nat→List Int
 | .lf _,s=>[(s:Int)]
 | .un _ a,s=>fl a s++[(s:Int)]
 | .bi _ a b,s=>fl a s++fl b (s+a.size)++[(s:Int)]
def Hj:List Tr→List Int
 |[]=>[]
 |t::st=>Hj st++fl t (cc st)
def jw:List Tr→List Int
 |[]=>[]
 |t::st=>jw st++[((cc st+t.size:Nat):Int)-1]
theorem qD(t:Tr): ∀s,(fl t s).length=t.size:=by
 induction t with
 |lf n=>intro s;rfl
 |un n a ih=>intro s;simp [fl,Tr.size,ih]
 |bi n a b iha ihb=>intro s;simp [fl,Tr.size,iha,ihb];omega
theorem pc: ∀st:List Tr,(Hj st).length=cc st
 |[]=>rfl
 |t::st=>by simp [Hj,cc,pc st,qD]
theorem cJ: ∀st:List Tr,(jw st).length=st.length
 |[]=>rfl
 |t::st=>by simp [jw,cJ st]
theorem Ki(t:Tr)(s:Nat):(fl t s)[t.size-1]? =some (s:Int):=by
 cases t with
 |lf n=>rfl
 |un n a=>simp only [fl,Tr.size];rw [DO (by rw [qD];omega),qD];simp
 |bi n a b=>simp only [fl,Tr.size];rw [DO (by simp [qD]),kh,qD,qD];simp
theorem yy(t:Tr)(st:List Tr)(rest:List Int):(Hj st++fl t (cc st)++rest)[cc st+t.size-1]? =some (cc st:Int):=by
 have:=t.size_pos
 rw [t8 (by rw [kh,pc,qD];omega),DO (by rw [pc];omega),pc,show cc st+t.size-1-cc st=t.size-1 from by omega]
 exact Ki t _
theorem Hm: ∀(ns:List bH) (st:List Tr),cc st+ns.length≤100000→ig ns (cc st) (Hj st) (jw st)=some (match uw ns st with
   |some st' =>(Hj st',decide (st'.length=1)&&decide (cc st' ≤1000))
   |none=>([],false)):=by
 intro ns
 induction ns with
 |nil=>
  intro st _
  simp only [ig,uw,cJ,pc]
  congr 2
  congr 1
  ·rw [xi];simp;omega
  ·rw [xi];simp;omega
 |cons n ns ih=>
  intro st hs
  simp only [lm]at hs
  have hll:=Ab st
  unfold ig
  rw [s6]
  simp only [ce,cJ,yM]
  unfold uw
  unfold push
  -- the parts
  cases hk:pk n.Tag with
  |none=>
   have e:M0 n.Tag= -1:=by unfold M0;rw [hk]
   simp [e]
  |some k=>
   have e:M0 n.Tag=(k:Int):=by unfold M0;rw [hk]
   have hk3:k=0∨k=1∨k=2:=by
    unfold pk at hk
    repeat' split at hk
    all_goals simp at hk
    all_goals omega
   rw [e]
   rcases hk3 with rfl|rfl|rfl
   ·-- none
    simp only []
    have c1:(decide (((0:Nat):Int)<0)||decide ((st.length:Int)<((0:Nat):Int)))=false:=by simp
    simp only [c1,Bool.not_false,oT,ce]
    cases hc:HO n with
    |false=>simp
    |true=>
     simp only [te,tZ,pr,vS]
     rw [iV st.length st.length (by rw [j8 (by omega) (by omega)];omega) rfl (fO _) (by rw [cJ];exact fO _)]
     have hd:(List.take st.length (jw st)).drop st.length=[]:=t7 (by simp;omega)
     simp only [hd,ce,jd]
     by_cases hL:n.L= -1∧n.R= -1
     ·have hb:(n.L== -1&&n.R== -1)=true:=by simp [hL]
      rw [c8 hb,dg (by simp [hL.1,hL.2])]
      rw [fh (by simp only [lm,zk,pc];omega)]
      simp only [ce]
      rw [iV (i:=0) 0 st.length rfl (by rw [cJ,j8 (by omega) (by omega)];omega) (jr _) (by rw [cJ];exact fO _)]
      rw [tg (by rw [cJ];exact fO _),pu]
      simp only [ce]
      rw [fh (by simp only [lm,zk,cJ];omega)]
      simp only [ce]
      have h2:=ih (.lf (rk n (-1) (-1))::st) (by simp [cc,Tr.size];omega)
      simp only [cc,Tr.size,Hj,fl,jw]at h2
      rw [show(((cc st+1:Nat):Int)-1)=(cc st:Int)from by omega]at h2
      exact h2
     ·have hb:(n.L== -1&&n.R== -1)=false:=by
       rw [Bool.eq_false_iff];intro h;apply hL;simpa using h
      rw [hb]
      rw [c8 (by
       simp only [wA,DN]
       intro h
       have h1:(-1:Int)=n.L:=by injection h
       have h2:(-1:Int)=n.R:=by injection h with _ h;injection h
       exact hL ⟨h1.symm,h2.symm⟩)]
      simp
   ·-- one
    cases st with
    |nil=>simp
    |cons a st=>
     simp only []
     have c1:(decide (((1:Nat):Int)<0)||decide (((a::st).length:Int)<((1:Nat):Int)))=false:=by simp;omega
     simp only [c1,Bool.not_false,oT,ce]
     cases hc:HO n with
     |false=>simp
     |true=>
      simp only [te,tZ,pr,vS]
      simp only [lm]at hll ⊢
      simp only [cc]at hs hll
      have hap:=a.size_pos
      rw [iV st.length (st.length+1) (by rw [j8 (by omega) (by omega)];omega) (by omega) (by omega) (by rw [cJ];exact fO _)]
      have hd:(List.take (st.length+1) (jw (a::st))).drop st.length=[((cc st+a.size:Nat):Int)-1]:=by
       rw [tg (by rw [cJ];exact fO _)]
       simp only [jw]
       rw [Fb (by rw [cJ];exact fO _),t7 (by rw [cJ];exact fO _),rh]
      rw [hd]
      simp only [ce,jd]
      rw [lz (cc st+a.size-1) (by omega)]
      have hf:=yy a st []
      rw [zj]at hf
      simp only [Hj]
      rw [hf]
      simp only [ce]
      rw [lz 0 rfl]
      simp only [Fa,ce]
      have hset:([(-1:Int),-1].set ((0:Nat):Int).toNat (((cc st+a.size:Nat):Int)-1))=[((cc st+a.size:Nat):Int)-1,-1]:=rfl
      rw [hset]
      by_cases hL:n.L=((cc st+a.size:Nat):Int)-1∧n.R= -1
      ·have hb:(n.L==((cc st+a.size:Nat):Int)-1&&n.R== -1)=true:=by simp [hL]
       rw [c8 hb,dg (by rw [hL.1,hL.2];simp)]
       rw [fh (by simp only [lm,zk,kh,pc,qD];omega)]
       simp only [ce]
       rw [iV (i:=0) 0 st.length rfl (by rw [cJ,j8 (by simp<;>omega) (by simp<;>omega)];simp) (jr _) (by rw [cJ];simp)]
       have ht:(List.take st.length (jw (a::st))).drop 0=jw st:=by
        simp only [jw,pu]
        rw [DP (by rw [cJ];exact fO _),tg (by rw [cJ];exact fO _)]
       rw [ht]
       simp only [ce]
       rw [fh (by simp only [lm,zk,cJ];omega)]
       simp only [ce]
       have h2:=ih (.un (rk n (-1) (-1)) a::st) (by simp [cc,Tr.size];omega)
       simp only [cc,Tr.size,Hj,fl,jw]at h2
       rw [show(((cc st+(a.size+1):Nat):Int)-1)=((cc st+a.size:Nat):Int)from by omega]at h2
       have hm:min ((cc (a::st):Nat):Int) (cc st:Int)=(cc st:Int):=by simp only [cc];omega
       rw [hm]
       simp only [ri]at h2 ⊢
       exact h2
      ·have hb:(n.L==((cc st+a.size:Nat):Int)-1&&n.R== -1)=false:=by
        rw [Bool.eq_false_iff];intro h;apply hL;simpa using h
       rw [hb]
       rw [c8 (by
        simp only [wA,DN]
        intro h
        have h1:((cc st+a.size:Nat):Int)-1=n.L:=by injection h
        have h2:(-1:Int)=n.R:=by injection h with _ h;injection h
        exact hL ⟨h1.symm,h2.symm⟩)]
       simp
   ·-- two
    cases st with
    |nil=>simp
    |cons b st=>
     cases st with
     |nil=>simp
     |cons a st=>
      simp only []
      have c1:(decide (((2:Nat):Int)<0)||decide (((b::a::st).length:Int)<((2:Nat):Int)))=false:=by simp;omega
      simp only [c1,Bool.not_false,oT,ce]
      cases hc:HO n with
      |false=>simp
      |true=>
       simp only [te,tZ,pr,vS]
       simp only [lm]at hll ⊢
       simp only [cc]at hs hll
       have hap:=a.size_pos
       have hbp:=b.size_pos
       rw [iV st.length (st.length+1+1) (by rw [j8 (by omega) (by omega)];omega) (by omega) (by omega) (by rw [cJ];exact fO _)]
       have hd:(List.take (st.length+1+1) (jw (b::a::st))).drop st.length=[((cc st+a.size:Nat):Int)-1,((cc st+a.size+b.size:Nat):Int)-1]:=by
        rw [tg (by rw [cJ];exact fO _)]
        simp only [jw,cc,ri]
        rw [Fb (by rw [cJ];exact fO _),t7 (by rw [cJ];exact fO _),rh]
        rfl
       rw [hd]
       simp only [ce,jd]
       simp only [Hj,cc]
       rw [lz (cc st+a.size-1) (by omega)]
       rw [yy a st (fl b (cc st+a.size))]
       simp only [ce]
       rw [lz 0 rfl]
       simp only [Fa,ce]
       have hset:([(-1:Int),-1].set ((0:Nat):Int).toNat (((cc st+a.size:Nat):Int)-1))=[((cc st+a.size:Nat):Int)-1,-1]:=rfl
       rw [hset]
       rw [lz (cc st+a.size+b.size-1) (by omega)]
       have hf:=yy b (a::st) []
       rw [zj]at hf
       simp only [Hj,cc]at hf
       rw [hf]
       simp only [ce]
       rw [lz (0+1) rfl]
       simp only [List.getElem?_cons_succ,Fa,ce]
       have hset2:([((cc st+a.size:Nat):Int)-1,-1].set ((0+1:Nat):Int).toNat (((cc st+a.size+b.size:Nat):Int)-1))=[((cc st+a.size:Nat):Int)-1,((cc st+a.size+b.size:Nat):Int)-1]:=rfl
       rw [hset2]
       by_cases hL:n.L=((cc st+a.size:Nat):Int)-1∧n.R=((cc st+a.size+b.size:Nat):Int)-1
       ·have hb:(n.L==((cc st+a.size:Nat):Int)-1&&n.R==((cc st+a.size+b.size:Nat):Int)-1)=true:=by rw [hL.1,hL.2];simp
        rw [c8 hb,dg (by rw [hL.1,hL.2];simp)]
        rw [fh (by simp only [lm,zk,kh,pc,qD];omega)]
        simp only [ce]
        rw [iV (i:=0) 0 st.length rfl (by rw [cJ,j8 (by simp;omega) (by simp;omega)];simp;omega) (jr _) (by rw [cJ];simp;omega)]
        have ht:(List.take st.length (jw (b::a::st))).drop 0=jw st:=by
         simp only [jw,pu,ri]
         rw [DP (by rw [cJ];exact fO _),tg (by rw [cJ];exact fO _)]
        rw [ht]
        simp only [ce]
        rw [fh (by simp only [lm,zk,cJ];omega)]
        simp only [ce]
        have h2:=ih (.bi (rk n (-1) (-1)) a b::st) (by simp [cc,Tr.size];omega)
        simp only [cc,Tr.size,Hj,fl,jw]at h2
        rw [show(((cc st+(a.size+b.size+1):Nat):Int)-1)=((cc st+a.size+b.size:Nat):Int)from by omega,show cc st+(a.size+b.size+1)=cc st+a.size+b.size+1 from by omega]at h2
        have hm:min (min (((cc st+a.size+b.size:Nat)):Int) (cc st:Int)) ((cc st+a.size:Nat):Int)=(cc st:Int):=by omega
        rw [hm]
        simp only [ri]at h2 ⊢
        exact h2
       ·have hb:(n.L==((cc st+a.size:Nat):Int)-1&&n.R==((cc st+a.size+b.size:Nat):Int)-1)=false:=by
         rw [Bool.eq_false_iff];intro h;apply hL;simpa using h
        rw [hb]
        rw [c8 (by
         simp only [wA,DN]
         intro h
         have h1:((cc st+a.size:Nat):Int)-1=n.L:=by injection h
         have h2:((cc st+a.size+b.size:Nat):Int)-1=n.R:=by injection h with _ h;injection h
         exact hL ⟨h1.symm,h2.symm⟩)]
        simp

def rE(ns:List bH):Bool:=(tp ns).isSome
theorem CO{st:List Tr}(h:uw ns []=some st):cc st=ns.length:=by
 have:=(tG h (fun t ht=>by cases ht)).1
 rw [←Ax,this];simp [q8]
theorem s7(e:bT)(h:e.Nodes.length≤100000):lC e=some (if rE e.Nodes then 0 else 200):=by
 unfold lC pf rE tp
 have:=Hm e.Nodes [] (by simpa [cc] using h)
 simp only [cc,Hj,jw]at this
 rw [this]
 cases hp:uw e.Nodes []with
 |none=>rfl
 |some st=>
  have hsz:=CO hp
  match st,hsz with
  |[],_=>rfl
  |[t],hsz=>
   simp only [ce,hsz]
   by_cases hl:e.Nodes.length≤1000<;>simp [hl]
  |t::t2::st,_=>simp
theorem Ee(h:rE ns=true):1≤ns.length∧ns.length≤1000:=by
 unfold rE at h
 cases ht:tp ns with
 |none=>rw [ht]at h;cases h
 |some t=>
  obtain⟨hw,hN,hs⟩:=vW ht
  have hlen:ns.length=t.size:=by rw [hN,t.flat_len]
  have:=t.size_pos
  omega

theorem EP(p:List Int)(hp:p.length≤8000)(i:Nat)(y:List Int)(hy:i+y.length=p.length): ∀(k i1:Nat) (x:List Int) (x1:Nat),i1+k=y.length→0<i1→x.length=p.length→x1+1≤i+i1→x.drop (i+i1-1)=p.drop (i+i1-1)→
  di i y k i1 x (x1:Int)=some (x.take x1++sa ((p[i+i1-1]?).getD 0) (p.drop (i+i1))):=by
 intro k
 induction k with
 |zero=>
  intro i1 x x1 h1 h0 hx h2 h3
  simp only [di]
  have hx1:x1≤x.length:=by omega
  rw [sj hx1 (fO _)]
  simp only [ce,AX,AZ]
  rw [show((0:Int))=((0:Nat):Int)from rfl,sj (jr _) (by simp;omega)]
  simp only [ce,pu]
  have hn:p.drop (i+i1)=[]:=Gn (by omega)
  rw [hn,Dg,zj,DP (by simp;omega),wx,Nat.min_self]
 |succ k ih=>
  intro i1 x x1 h1 h0 hx h2 h3
  have e1:x[i+i1]? =p[i+i1]? :=by
   have:=congrArg (fun l:List Int=>l[1]?) h3
   simp only [rj]at this
   rwa [show i+i1-1+1=i+i1 from by omega]at this
  have e0:x[i+i1-1]? =p[i+i1-1]? :=by
   have:=congrArg (fun l:List Int=>l[0]?) h3
   simpa only [rj,Nat.add_zero] using this
  have hlt:i+i1<p.length:=by omega
  have g1:zL x (i:Int) y.length (i1:Int)=some p[i+i1]:=by
   unfold zL
   rw [c8 (by omega),show(i:Int)+(i1:Int)=((i+i1:Nat):Int)from by omega,dy,e1,nK hlt]
  have g0:zL x (i:Int) y.length (IntKind.i64.wrap ((i1:Int)-1))=some p[i+i1-1]:=by
   rw [j8 (by omega) (by omega)]
   unfold zL
   rw [c8 (by omega),show(i:Int)+((i1:Int)-1)=((i+i1-1:Nat):Int)from by omega,dy,e0,nK (by omega)]
  have hd:p.drop (i+i1)=p[i+i1]::p.drop (i+i1+1):=tk hlt
  have hp1:(p[i+i1-1]?).getD 0=p[i+i1-1]:=by rw [nK (by omega)];rfl
  simp only [di,g1,g0,ce]
  rw [hd,hp1]
  by_cases hx2:p[i+i1]=p[i+i1-1]
  ·rw [dg (by simp [hx2])]
   have h3' :x.drop (i+(i1+1)-1)=p.drop (i+(i1+1)-1):=by
    have:=congrArg (List.drop 1) h3
    rwa [rf,rf,show i+i1-1+1=i+(i1+1)-1 from by omega]at this
   rw [ih (i1+1) x x1 (by omega) (by omega) hx (by omega) h3']
   rw [AK hx2,show i+(i1+1)-1=i+i1 from by omega,nK hlt,show i+(i1+1)=i+i1+1 from by omega]
   rfl
  ·rw [c8 (by simp [hx2]),dy,nK (by omega)]
   simp only [ce,AZ]
   rw [j8 (by omega) (by omega),show((x1:Int)+1)=((x1+1:Nat):Int)from by omega]
   have h3' :(x.set x1 p[i+i1]).drop (i+(i1+1)-1)=p.drop (i+(i1+1)-1):=by
    rw [List.drop_set_of_lt (by omega)]
    have:=congrArg (List.drop 1) h3
    rwa [rf,rf,show i+i1-1+1=i+(i1+1)-1 from by omega]at this
   rw [ih (i1+1) _ (x1+1) (by omega) (by omega) (by simpa using hx) (by omega) h3']
   rw [FY hx2,show i+(i1+1)-1=i+i1 from by omega,nK hlt,show i+(i1+1)=i+i1+1 from by omega]
   have ht:(x.set x1 p[i+i1]).take (x1+1)=x.take x1++[p[i+i1]]:=by
    rw [HT (by simp;omega),List.take_set_of_le (by omega)]
    simp
   rw [ht]
   simp
theorem EQ(p:List Int)(hp:p.length≤8000):gL p=some (FX p):=by
 unfold gL
 by_cases h2:p.length<2
 ·rw [c8 (by simp;omega)]
  match p,h2 with
  |[],_=>rfl
  |[x],_=>rfl
 ·rw [dg (by simp;omega)]
  have key: ∀(l:List Int) (i:Nat),p.drop i=l→0<i→i≤p.length→FX p=p.take i++sa ((p[i-1]?).getD 0) (p.drop i)→dC p l i=some (FX p):=by
   intro l
   induction l with
   |nil=>
    intro i h1 h0 hle h3
    have:=zX.1 h1
    simp only [dC]
    rw [h3,h1,tg (by omega),Dg,zj]
   |cons x t ih=>
    intro i h1 h0 hle h3
    have hi:i<p.length:=by
     rcases js i p.length with h|h
     ·exact h
     ·rw [Gn h]at h1;cases h1
    have hx:x=p[i]:=by rw [tk hi]at h1;exact(List.cons.inj h1).1.symm
    have ht:p.drop (i+1)=t:=by rw [←rf,h1];rfl
    have hp1:(p[i-1]?).getD 0=p[i-1]:=by rw [nK (by omega)];rfl
    simp only [dC]
    rw [j8 (by omega) (by omega),show(i:Int)-1=((i-1:Nat):Int)from by omega,dy,nK (by omega)]
    simp only [ce]
    by_cases he:x=p[i-1]
    ·rw [c8 (by simp [he])]
     rw [sj hle (fO _)]
     simp only [ce,AX]
     rw [EP p hp i (p.drop i) (by simp;omega) _ 1 p i (by simp;omega) (by omega) rfl (by omega) (by simp)]
     rw [h3,h1,hp1,AK he,←ht,hx]
     rw [show i+1-1=i from by omega,nK hi];rfl
    ·rw [dg (by simp [he])]
     refine ih (i+1) ht (by omega) (by omega) ?_
     rw [h3,h1,hp1,FY he,HT hi,←ht,hx,show i+1-1=i from by omega,nK hi]
     rw [ri];rfl
  have hpc:p=p[0]::p.drop 1:=by
   have:=tk (l:=p) (i:=0) (by omega)
   simpa using this
  refine key (p.drop 1) 1 rfl (by omega) (by omega) ?_
  have e:(p[1-1]?).getD 0=p[0]:=by simp [nK (show 0<p.length by omega)]
  rw [e]
  conv=>lhs;rw [hpc]
  have e2:p.take 1=[p[0]]:=by
   conv=>lhs;rw [hpc]
   rfl
  rw [e2];rfl

theorem G8(l:List Int)(z:Int):z∈sortI l↔z∈l:=by unfold sortI;simp
theorem tW: ∀(ns:List bH) (out:List Int),out.length+ns.length≤8000→ ∃cs,jB ns out=some cs∧ ∀c,c∈cs↔c∈out∨ ∃n∈ns,n.Tag=2∧n.Col=c
 |[],out,h=>by
  unfold jB xG
  rw [c8 (by simp at h;omega)]
  simp only [ce]
  rw [EQ _ (by rw [vo];simpa using h)]
  exact⟨_,rfl,fun c=>by rw [G9,G8];simp⟩
 |n::ns,out,h=>by
  simp only [lm]at h
  unfold jB
  by_cases ht:n.Tag=2
  ·rw [c8 (by simp [ht]),fh (by simp;omega)]
   simp only [ce]
   obtain⟨cs,h1,h2⟩:=tW ns (out++[n.Col]) (by simp;omega)
   exact⟨cs,h1,fun c=>by rw [h2];simp [ht,or_assoc,eq_comm]⟩
  ·rw [dg (by simp [ht])]
   obtain⟨cs,h1,h2⟩:=tW ns out (by omega)
   exact⟨cs,h1,fun c=>by rw [h2];simp [ht]⟩
theorem BM(e:bT)(h:rE e.Nodes=true): ∃cs,pZ e=some cs∧ ∀c,c∈cs↔ ∃n∈e.Nodes,n.Tag=2∧n.Col=c:=by
 have hl:=Ee h
 unfold pZ
 rw [s7 e (by omega),h]
 obtain⟨cs,h1,h2⟩:=tW e.Nodes [] (by simp;omega)
 exact⟨cs,by simpa using h1,fun c=>by rw [h2];simp⟩
def kn(tag l r:Int):Int×Bool:=(xX tag l r).getD (0,false)
def k4(k:Int):Prop:=k=0∨k=1∨k=2∨k=3
theorem Mf(tag l r:Int):k4 (kn tag l r).1:=by
 unfold kn xX ow
 simp only [ce]
 repeat' split
 all_goals simp [k4]
theorem EZ(kinds:List Int)(n:bH)(x:Int)(hx:k4 x)(hk:pk n.Tag=some 1):gp kinds n [x]=some (if(kn n.Tag x 0).2 then((kn n.Tag x 0).1,0)else(0,201)):=by
 obtain⟨tag,L,R,col,v⟩:=n
 have ht:tag=4∨tag=5∨tag=6∨tag=7:=by
  unfold pk at hk
  repeat' split at hk
  all_goals simp at hk
  rename_i h
  have h:4≤tag∧tag≤7:=h
  omega
 rcases ht with rfl|rfl|rfl|rfl<;>rcases hx with rfl|rfl|rfl|rfl<;>rfl
theorem EY(kinds:List Int)(n:bH)(x y:Int)(hx:k4 x)(hy:k4 y)(hk:pk n.Tag=some 2):gp kinds n [x,y]=some (if(kn n.Tag x y).2 then((kn n.Tag x y).1,0)else(0,201)):=by
 obtain⟨tag,L,R,col,v⟩:=n
 have ht:tag=12∨tag=13∨tag=14∨tag=15∨tag=16∨tag=17∨tag=18∨tag=19∨tag=20∨tag=21∨tag=22∨tag=23:=by
  unfold pk at hk
  repeat' split at hk
  all_goals simp at hk
  rename_i h
  have h:12≤tag∧tag≤23:=h
  omega
 rcases ht with rfl|rfl|rfl|rfl|rfl|rfl|rfl|rfl|rfl|rfl|rfl|rfl<;>rcases hx with rfl|rfl|rfl|rfl<;>rcases hy with rfl|rfl|rfl|rfl<;>rfl
def kd(kinds:List Int):Tr→Option Int
 | .lf n=>if n.Tag=1 then some n.Value.Kind else some ((kinds[n.Col.toNat]?).getD 0)
 | .un n a=>(kd kinds a).bind fun x=>if(kn n.Tag x 0).2 then some (kn n.Tag x 0).1 else none
 | .bi n a b=>(kd kinds a).bind fun x=>(kd kinds b).bind fun y=>if(kn n.Tag x y).2 then some (kn n.Tag x y).1 else none
theorem OX(kinds:List Int)(n:bH)(a:Tr):kd kinds (.un n a)=(kd kinds a).bind fun x=>if(kn n.Tag x 0).2 then some (kn n.Tag x 0).1 else none:=rfl
theorem OY(kinds:List Int)(n:bH)(a b:Tr):kd kinds (.bi n a b)=(kd kinds a).bind fun x=>(kd kinds b).bind fun y=>if(kn n.Tag x y).2 then some (kn n.Tag x y).1 else none:=rfl
def Di(m:Nat):Tr→Prop
 | .lf n=>n.Tag=2→n.Col<m
 | .un _ a=>Di m a
 | .bi _ a b=>Di m a∧Di m b
theorem pk0{tag:Int}(h:pk tag=some 0):tag=1∨tag=2:=by
 unfold pk at h
 repeat' split at h
 all_goals simp at h
 assumption
theorem RJ(h:HO n=true)(ht:n.Tag=1):tF n.Value=true:=by
 have h2:=nB n
 rw [h]at h2
 unfold kJ at h2
 rw [c8 (by simp [ht]),ox]at h2
 simp at h2
 exact h2.1
theorem RI(h:HO n=true)(ht:n.Tag=2):0≤n.Col∧n.Col<16:=by
 have h2:=nB n
 rw [h]at h2
 unfold kJ at h2
 rw [dg (by simp [ht]),c8 (by simp [ht])]at h2
 simp at h2
 exact⟨h2.1.2,h2.2⟩
theorem IB{kinds:List Int}(hk: ∀k∈kinds,k4 k): ∀(t:Tr),t.wf→ ∀{k},kd kinds t=some k→k4 k
 | .lf n,⟨h1,h2,_,_⟩,k,h=>by
  unfold kd at h
  split at h
  ·rename_i ht
   have:=CM (RJ h2 ht)
   cases h;unfold k4;omega
  ·injection h with h
   subst h
   cases hc:kinds[n.Col.toNat]? with
   |none=>exact .inl rfl
   |some z=>exact hk z (oa hc)
 | .un n a,_,k,h=>by
  unfold kd at h
  cases ha:kd kinds a with
  |none=>rw [ha]at h;cases h
  |some x=>
   rw [ha,ce]at h
   split at h
   ·cases h;exact Mf ..
   ·cases h
 | .bi n a b,_,k,h=>by
  unfold kd at h
  cases ha:kd kinds a with
  |none=>rw [ha]at h;cases h
  |some x=>
   cases hb:kd kinds b with
   |none=>rw [ha,hb]at h;cases h
   |some y=>
    rw [ha,hb]at h
    simp only [ce]at h
    split at h
    ·cases h;exact Mf ..
    ·cases h
theorem Ek(stack l:List Int)(h:stack.length+l.length≤100000):lk (stack++l) (l.length:Int)=some (l,stack):=by
 unfold lk cu
 have e:IntKind.i64.wrap (((stack++l).length:Int)-(l.length:Int))=(stack.length:Int):=by
  rw [kh,j8 (by omega) (by omega)];omega
 rw [e,iV stack.length (stack++l).length rfl rfl (by simp) (fO _)]
 simp only [ce,AX,Fb (fO _),List.drop_length,rh]
 rw [fh (by simp;omega)]
 simp only [ce,rh]
 rw [iV (i:=0) 0 stack.length rfl rfl (jr _) (by simp)]
 simp
theorem CP(stack:List Int){b:Int}(h:b≠0):jb b stack=some (0,b):=by
 unfold jb;rw [c8 (by simpa using h)]
theorem pE{tag:Int}{k:Nat}(h:pk tag=some k):mX tag=some (k:Int):=by
 rw [s6];unfold M0;rw [h]
theorem GY(kinds:List Int)(hk: ∀k∈kinds,k4 k)(t:Tr):t.wf→Di kinds.length t→ ∀(s:Nat) (rest:List bH) (stack:List Int),stack.length+t.size≤50000→
  fb (gp kinds) (t.flat s++rest) 0 stack=match kd kinds t with
   |some k=>fb (gp kinds) rest 0 (stack++[k])
   |none=>some (0,201):=by
 induction t with
 |lf n=>
  intro⟨h1,h2,h3,h4⟩ hc s rest stack hl
  simp only [Tr.flat,Tr.size,zT,rh]at hl ⊢
  rw [fb]
  have e1:(rk n (-1) (-1)).Tag=n.Tag:=rfl
  rw [e1,pE h1]
  have h0:=Ek stack [] (by simp;omega)
  simp only [zj,zk]at h0
  simp only [ce]
  rw [h0]
  simp only [ce]
  have hv:gp kinds (rk n (-1) (-1)) []=(kd kinds (.lf n)).map (fun k=>(k,(0:Int))):=by
   unfold gp je kd
   simp only [e1]
   rcases pk0 h1 with ht|ht
   ·rw [c8 (by simp [ht]),c8 ht];rfl
   ·rw [dg (by simp [ht]),c8 (by simp [ht]),dg (by simp [ht])]
    have hb:=RI h2 ht
    have hm:n.Col<kinds.length:=hc ht
    have e2:(rk n (-1) (-1)).Col=n.Col:=rfl
    rw [e2,lz n.Col.toNat (by omega),nK (by omega)]
    rfl
  rw [hv]
  have: ∃k,kd kinds (.lf n)=some k:=by unfold kd;split<;>exact⟨_,rfl⟩
  obtain⟨k,hk1⟩:=this
  rw [hk1]
  simp only [xn,ce]
  rw [dg (by simp),fh (by simp;omega)]
  rfl
 |un n a ih=>
  intro⟨⟨h1,h2,h3,h4⟩,ha⟩ hc s rest stack hl
  simp only [Tr.flat,Tr.size,ri]at hl ⊢
  rw [OX,ih ha hc s _ stack (by omega)]
  cases hx:kd kinds a with
  |none=>rfl
  |some x=>
   have hx4:=IB hk a ha hx
   simp only [ce,zT,rh]
   rw [fb]
   have e1:(rk n (((s+a.size:Nat):Int)-1) (-1)).Tag=n.Tag:=rfl
   rw [e1,pE h1]
   have h0:=Ek stack [x] (by simp;omega)
   simp only [ce]
   have e0:(([x]:List Int).length:Int)=((1:Nat):Int):=rfl
   rw [←e0,h0]
   simp only [ce]
   rw [EZ kinds _ x hx4 (by rw [e1];exact h1),e1]
   cases hb:(kn n.Tag x 0).2 with
   |true=>
    simp only [oT,ce]
    rw [dg (by simp),fh (by simp;omega)]
    rfl
   |false=>
    simp only [tZ,pr,ce]
    rw [c8 (by decide),CP _ (by decide)]
 |bi n a b iha ihb=>
  intro⟨⟨h1,h2,h3,h4⟩,ha,hb⟩ ⟨hca,hcb⟩ s rest stack hl
  simp only [Tr.flat,Tr.size,ri]at hl ⊢
  rw [OY,iha ha hca s _ stack (by omega)]
  cases hx:kd kinds a with
  |none=>rfl
  |some x=>
   have hx4:=IB hk a ha hx
   simp only [ce]
   rw [ihb hb hcb (s+a.size) _ (stack++[x]) (by have:=a.size_pos;simp;omega)]
   cases hy:kd kinds b with
   |none=>rfl
   |some y=>
    have hy4:=IB hk b hb hy
    have hap:=a.size_pos
    simp only [ce,zT,rh]
    rw [fb]
    have e1:(rk n (((s+a.size:Nat):Int)-1) (((s+a.size+b.size:Nat):Int)-1)).Tag=n.Tag:=rfl
    rw [e1,pE h1]
    have h0:=Ek stack [x,y] (by simp;omega)
    simp only [ce]
    have e0:(([x,y]:List Int).length:Int)=((2:Nat):Int):=rfl
    have e9:stack++[x]++[y]=stack++[x,y]:=by simp
    rw [←e0,e9,h0]
    simp only [ce]
    rw [EY kinds _ x y hx4 hy4 (by rw [e1];exact h1),e1]
    cases hb:(kn n.Tag x y).2 with
    |true=>
     simp only [oT,ce]
     rw [dg (by simp),fh (by simp;omega)]
     rfl
    |false=>
     simp only [tZ,pr,ce]
     rw [c8 (by decide),CP _ (by decide)]
def sb(m:Nat)(ns:List bH):Bool:=ns.all fun n=> !((n.Tag==2)&&decide ((m:Int)≤n.Col))
theorem Dj(m:Nat)(t:Tr):t.wf→ ∀s,sb m (t.flat s)=true→Di m t:=by
 induction t with
 |lf n=>
  intro _ s h ht
  simp only [sb,Tr.flat,zi,List.all_nil,Bool.and_true]at h
  have e1:(rk n (-1) (-1)).Tag=n.Tag:=rfl
  have e2:(rk n (-1) (-1)).Col=n.Col:=rfl
  simp [e1,e2,ht]at h
  exact h
 |un n a ih=>
  intro⟨_,ha⟩ s h
  simp only [sb,Tr.flat,List.all_append,mA]at h
  exact ih ha s h.1
 |bi n a b iha ihb=>
  intro⟨_,ha,hb⟩ s h
  simp only [sb,Tr.flat,List.all_append,mA]at h
  exact⟨iha ha s h.1.1,ihb hb _ h.1.2⟩
def Nf(kinds:List Int):Bool:=kinds.all fun k=>decide (0≤k)&&decide (k≤3)
theorem IC(k:Int)(ks:List Int):Nf (k::ks)=((decide (0≤k)&&decide (k≤3))&&Nf ks):=rfl
theorem Kd{kinds:List Int}(h:Nf kinds=true){k:Int}(hk:k∈kinds):k4 k:=by
 have:=kg.1 h k hk
 simp at this
 unfold k4;omega
def FB(e:bT)(kinds:List Int):Int×Int:=
 if rE e.Nodes then if Nf kinds then if sb kinds.length e.Nodes then match (tp e.Nodes).bind (kd kinds)with
  |some k=>(k,0)
  |none=>(0,201)else(0,2)else(0,2)else(0,200)
theorem zb(e:bT)(kinds:List Int): ∀cs:List Int,jA e kinds cs=if cs.all (fun c=>decide (c<(kinds.length:Int)))then lc e (gp kinds)else some (0,2)
 |[]=>by
  unfold jA
  cases lc e (gp kinds)<;>rfl
 |c::cs=>by
  unfold jA
  rw [zb e kinds cs]
  by_cases h:(kinds.length:Int)≤c
  ·rw [c8 (by simpa using h),dg (by simp;omega)]
  ·rw [dg (by simpa using h)]
   have:c<(kinds.length:Int):=by omega
   simp [this]
theorem qM(e:bT)(kinds:List Int)(hl:e.Nodes.length≤50000):lO e kinds=some (FB e kinds):=by
 unfold lO FB
 rw [s7 e (by omega)]
 cases hr:rE e.Nodes with
 |false=>rfl
 |true=>
  simp only [oT,ce]
  rw [dg (by decide)]
  have key: ∀ks:List Int,mi e kinds ks=if Nf ks then(pZ e).bind (jA e kinds)else some (0,2):=by
   intro ks
   induction ks with
   |nil=>rfl
   |cons k ks ih=>
    unfold mi
    rw [ih]
    by_cases h:k<0∨3<k
    ·rw [c8 (by simpa using h),dg (by simp [Nf];omega)]
    ·rw [dg (by simpa using h)]
     have h1:(decide (0≤k)&&decide (k≤3))=true:=by simp;omega
     rw [IC,h1,vS]
  rw [key]
  cases hk:Nf kinds with
  |false=>rfl
  |true=>
   simp only [oT]
   obtain⟨cs,h1,h2⟩:=BM e hr
   rw [h1,ce,zb]
   have hci:cs.all (fun c=>decide (c<(kinds.length:Int)))=sb kinds.length e.Nodes:=by
    rw [xi]
    simp only [kg,ny,sb,wA,Bool.and_eq_false_iff,beq_eq_false_iff_ne,DN]
    constructor
    ·intro h n hn
     by_cases ht:n.Tag=2
     ·exact .inr (by have:=h _ ((h2 n.Col).2 ⟨n,hn,ht,rfl⟩);omega)
     ·exact .inl ht
    ·intro h c hc
     obtain⟨n,hn,ht,rfl⟩:=(h2 c).1 hc
     rcases h n hn with h|h
     ·exact absurd ht h
     ·omega
   rw [hci]
   cases hc:sb kinds.length e.Nodes with
   |false=>rfl
   |true=>
    simp only [oT]
    cases ht:tp e.Nodes with
    |none=>unfold rE at hr;rw [ht]at hr;cases hr
    |some t=>
     obtain⟨hw,hN,hs⟩:=vW ht
     have hct:=Dj kinds.length t hw 0 (by rw [←hN];exact hc)
     have:=GY kinds (fun k=>Kd hk) t hw hct 0 [] [] (by simp;omega)
     rw [zj,←hN]at this
     unfold lc
     rw [this]
     simp only [ce]
     cases kd kinds t with
     |none=>rfl
     |some k=>rfl

theorem BV{tl:List α}{y:α}(h:xs.drop i=y::tl):ea xs (i:Int)=some y∧i<xs.length∧xs.drop (i+1)=tl:=by
 have hi:i<xs.length:=by
  rcases js i xs.length with h1|h1
  ·exact h1
  ·rw [Gn h1]at h;cases h
 rw [tk hi]at h
 injection h with h1 h2
 exact⟨by rw [dy,nK hi,h1],hi,h2⟩
theorem yP(h:xs.drop i=[]):xs.length≤i:=zX.1 h
theorem qc{f:kj→Option Bool}{g:kj→Bool}(hf: ∀v,f v=some (g v)): ∀(l:List kj) (i:Nat),∃j:Int,cU f l i=some j∧decide (0≤j)=l.any g
 |[],i=>⟨-1,rfl,rfl⟩
 |e::l,i=>by
  unfold cU
  rw [hf,ce]
  cases h:g e with
  |true=>exact⟨(i:Int),by simp,by simp [h]⟩
  |false=>
   obtain⟨j,h1,h2⟩:=qc hf l (i+1)
   exact⟨j,by simpa using h1,by rw [h2];simp [h]⟩
theorem sQ{f:kj→Option Bool}{g:kj→Bool}(hf: ∀v,f v=some (g v))(l:List kj):dx l f=some (l.any g):=by
 unfold dx fk
 obtain⟨j,h1,h2⟩:=qc hf l 0
 rw [h1,ce,h2]
theorem qY(l:List Int)(h:l.length≤68719476736):cu l=some l:=by
 unfold cu
 rw [fh (by simpa using h)];rfl
theorem L5(n:Int)(h0:0≤n)(h:n≤68719476736):iN n=some []:=by
 unfold iN jv
 rw [dg (by simp;omega)]
 have e:IntKind.i64.wrap (n-IntKind.i64.wrap ((0:Int)-0))=n:=by
  rw [j8 (n:=(0:Int)-0) (by omega) (by omega),j8 (by omega) (by omega)];omega
 rw [e]
 by_cases hp:0<n
 ·rw [c8 (by simpa using hp)]
  unfold Rf xw
  rw [c8 hp]
  simp only [ce]
  rw [c8 ⟨h0,h⟩]
  simp only [ce]
  rw [show cG (List.replicate n.toNat (0:Int)) 0 0=some []from by unfold cG;rw [c8 (by simp;omega)];simp]
  rfl
 ·rw [dg (by simpa using hp)];rfl
theorem E2(a b:List Int)(ha:a.length≤8000)(hb:b.length≤8000):fJ [a,b]=some (a++b):=by
 unfold fJ
 simp only [f7]
 rw [j8 (n:=(0:Int)+(a.length:Int)) (by omega) (by omega),dg (by simp),j8 (by omega) (by omega),dg (by simp;omega),L5 _ (by omega) (by omega)]
 simp only [ce,fZ]
 rw [fh (by simp;omega)]
 simp only [ce,rh]
 rw [fh (by omega)]
 rfl
structure y0(n:aZ):Prop where
 cond:n.Cond.Nodes.length≤5000
 kinds:n.Kinds.length≤5000
 keys:n.Keys.length≤5000
 aggs:n.Aggs.length≤5000
 items:n.Items.length≤5000
 order:n.Order.length≤5000
 args: ∀g∈n.Aggs,g.Arg.Nodes.length≤5000
 exprs: ∀e∈n.Items,e.Nodes.length≤5000
def Rd(a:List Int)(e:Int):Int:=(a[e.toNat]?).getD 0
def J0(a:List Int)(e:Int):Bool:=decide (e<0)||decide ((a.length:Int)≤e)
theorem Ni{a:List Int}{e:Int}(h:J0 a e=false):ea a e=some (Rd a e):=by
 simp [J0]at h
 rw [lz e.toNat (by omega),nK (by omega)]
 unfold Rd
 rw [nK (by omega)];rfl
end Go.Proofs.YtmogpgcfognefaaGreatDoor

