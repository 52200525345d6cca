/- cG of this claim: Q1, Q2. -/
import Derived.Test.YtmogpgcfognefaaGreatDoorNaQ1
import Derived.Laws.RangeAny
import Derived.Shelf.Strings.CaseAny
set_option linter.all false
namespace Go.Proofs.YtmogpgcfognefaaGreatDoor
open Go

def ph(n:Nat):Bool:=decide (97≤n)&&decide (n≤122)
def u7(n:Nat):Bool:=decide (48≤n)&&decide (n≤57)
def Mp(n:Nat):Bool:=ph n||u7 n||n==95
def Lq(b:UInt8):Bool:=Mp b.toNat
theorem tJ(n:Nat):pE (n:Int)=some (ph n):=by
 unfold pE ph
 congr 2<;>(rw [y5];omega)
theorem AI(n:Nat):rE (n:Int)=some (u7 n):=by
 unfold rE u7
 congr 2<;>(rw [y5];omega)
theorem Dl{n:Nat}(h:Mp n=true):n<128:=by
 unfold Mp ph u7 at h
 simp only [Bj,iP,wM,ve]at h
 omega
theorem Mk(n:Nat):((n:Int) !=(95:Int))= !(n==95):=by
 rw [bne,z8]
 simp only [wJ,beq_eq_false_iff_ne,ne_eq]
 omega
variable{i:Nat}
theorem HS{s:ji}(h:i<s.length)(hb:(s[i]).toNat<128):n8 s i=((s[i]).toNat,1):=
 decode_ascii ⟨s.toArray⟩ i (show i<(ByteArray.mk s.toArray).size from h) hb
theorem Gs{s:ji}(h:i<s.length)(hb: ¬(s[i]).toNat<128):128≤(n8 s i).1:=
 (decode_high ⟨s.toArray⟩ i (show i<(ByteArray.mk s.toArray).size from h) (show 128≤(s[i]).toNat by omega)).1
theorem BD(s:ji): ∀(f i:Nat),s.length<i+f→lF (ov s f i)=some ((s.drop i).all Lq)
 |0,i,h=>by
  rw [v7 (by omega)];rfl
 |f+1,i,h=>by
  unfold ov
  by_cases hi:i<s.length
  ·rw [dq hi]
   unfold lF
   simp only [AI,tJ,cn,Mk]
   rw [wK hi,vh]
   by_cases hb:(s[i]).toNat<128
   ·rw [HS hi hb]
    simp only []
    have ih:=BD s f (i+1) (by omega)
    have e:Lq s[i]=(ph (s[i]).toNat||u7 (s[i]).toNat||(s[i]).toNat==95):=rfl
    rw [e]
    cases h1:u7 (s[i]).toNat<;>cases h2:ph (s[i]).toNat<;>cases h3:((s[i]).toNat==95)<;>simp [ih]
   ·have hh:=Gs hi hb
    have e:Lq s[i]=false:=by
     cases ho:Lq s[i]with
     |false=>rfl
     |true=>exact absurd (Dl ho) hb
    have e2:Mp (n8 s i).1=false:=by
     cases ho:Mp (n8 s i).1 with
     |false=>rfl
     |true=>have:=Dl ho;omega
    rw [e,Bool.false_and]
    unfold Mp at e2
    simp only [Bool.or_eq_false_iff]at e2
    obtain⟨⟨h2,h1⟩,h3⟩:=e2
    simp [h1,h2,h3]
  ·rw [di hi,v7 (by omega)];rfl
def Ea(s:ji):Bool:=Na.any fun w=>w==s
theorem CF(v:ji): ∀(l:List ji) (i:Nat),∃j:Int,dH v l i=some j∧decide (0≤j)=l.any fun w=>w==v
 |[],i=>⟨-1,rfl,rfl⟩
 |e::l,i=>by
  unfold dH
  by_cases h:v=e
  ·subst h
   exact⟨(i:Int),by simp,by simp⟩
  ·obtain⟨j,h1,h2⟩:=CF v l (i+1)
   exact⟨j,by simp [h,h1],by simp [h2,Ne.symm h]⟩
theorem sk(s:ji):p7 s=some (Ea s):=by
 unfold p7 gB ip
 obtain⟨j,h1,h2⟩:=CF s Na 0
 rw [h1]
 simp only [cn,h2]
 rfl
def Mo(b:UInt8):UInt8:=UInt8.ofNat (if ph b.toNat then b.toNat-32 else b.toNat)
theorem Fs: ∀b:UInt8,Mo b=Lib.upperB b:=by
 intro b
 have key: ∀i:Fin 256,Mo (UInt8.ofNat i.val)=Lib.upperB (UInt8.ofNat i.val):=by decide+kernel
 have:=key ⟨b.toNat,b.toNat_lt⟩
 simpa using this
theorem yY(s:ji)(hs:s.length≤1000)(ha: ∀b∈s,Lq b=true):gO s=some (s.map Mo):=by
 unfold gO
 rw [dq (by omega),Lib.toUpperD_ascii s (fun b hb=>Dl (ha b hb))]
 unfold Lib.toUpperA
 rw [show Mo=Lib.upperB from funext Fs]
def KB:ji→Bool
 |[]=>false
 |b::_=>ph b.toNat
def q0(s:ji):Bool:=(decide (1≤s.length)&&decide (s.length≤16)&&KB s)&&(!Ea (s.map Mo)&&s.all Lq)
theorem Ga{b:UInt8}{t:ji}:Hw (b::t) (0:Int)=some (b.toNat:Int):=by unfold Hw;rfl
theorem pm(s:ji):m7 s=some (q0 s):=by
 unfold m7 q0
 cases s with
 |nil=>rfl
 |cons b t=>
  by_cases hl:(b::t).length≤16
  ·rw [dq (by rw [show((b::t)==([]:ji))=false from rfl,sv,wJ,Fk];omega),Ga,cn]
   have hb:=b.toNat_lt
   rw [show IntKind.i32.wrap (b.toNat:Int)=(b.toNat:Int) by rw [IntKind.wrap_i32];omega,tJ,cn,cn]
   have e0:(decide (1≤(b::t).length)&&decide ((b::t).length≤16)&&KB (b::t))=ph b.toNat:=by
    rw [vU (show 1≤(b::t).length by simp),vU hl];rfl
   rw [e0]
   cases hsm:ph b.toNat with
   |false=>rfl
   |true=>
    have hr:=BD (b::t) ((b::t).length+1) 0 (by omega)
    rw [qJ]at hr
    have hT:gO (b::t)=some (Lib.toUpperD (b::t)):=by unfold gO;rw [dq (by omega)]
    simp only [su,Bool.not_false,pf]
    cases ha:(b::t).all Lq with
    |true=>
     rw [yY (b::t) (by omega) (fun c hc=>lz.1 ha c hc),cn,sk,cn,cn]
     unfold BE
     rw [hr,ha]
     cases Ea ((b::t).map Mo)<;>rfl
    |false=>
     rw [hT,cn,sk,cn,cn]
     unfold BE
     rw [hr,ha]
     cases Ea (Lib.toUpperD (b::t))<;>simp
  ·rw [di (by rw [show((b::t)==([]:ji))=false from rfl,sv,wJ,Fk,Classical.not_not];omega)]
   rw [vV hl]
   simp

def zu(k:Int):Bool:=k==1||k==2||k==3
theorem wi(k:Int): ∃r,n9 k=some r∧(r==([]:ji))= !zu k:=by
 have g0:eZ LA ((0:Nat):Int)=some ⟨[98,111,111,108],1⟩:=rfl
 have g1:eZ LA ((0+1:Nat):Int)=some ⟨[105,110,116],2⟩:=rfl
 have g2:eZ LA ((0+1+1:Nat):Int)=some ⟨[116,101,120,116],3⟩:=rfl
 unfold n9
 by_cases h1:k=1
 ·subst h1;exact⟨_,by simp only [gS,g0,cn];rfl,rfl⟩
 by_cases h2:k=2
 ·subst h2;exact⟨_,by simp only [gS,g0,g1,cn];rfl,rfl⟩
 by_cases h3:k=3
 ·subst h3;exact⟨_,by simp only [gS,g0,g1,g2,cn];rfl,rfl⟩
 have n1:((1:Int)==k)=false:=by simpa using Ne.symm h1
 have n2:((2:Int)==k)=false:=by simpa using Ne.symm h2
 have n3:((3:Int)==k)=false:=by simpa using Ne.symm h3
 refine⟨[],?_,?_⟩
 ·simp only [gS,g0,g1,g2,cn,n1,n2,n3];rfl
 ·simp [zu,h1,h2,h3]
def B2(p:List aV)(x:aV):Bool:=p.any fun y=>y.Name==x.Name
def Gt:List aV→List aV→Bool
 |_,[]=>true
 |p,x::t=>(!B2 p x&&q0 x.Name)&&Gt (p++[x]) t
def Ke:List aV→List aV→Bool
 |_,[]=>true
 |p,x::t=>(q0 x.Name&&zu x.Kind&& !B2 p x)&&Ke (p++[x]) t
theorem EW: ∀(t p:List aV),Ke p t=(Gt p t&&t.all fun x=>zu x.Kind)
 |[],_=>rfl
 |x::t,p=>by
  unfold Ke Gt
  rw [EW t (p++[x]),vh]
  cases B2 p x<;>cases q0 x.Name<;>cases zu x.Kind<;>simp
theorem Hu(x:aV)(t:List aV): ∀(p:List aV) (i:Nat),∃k:Nat,ci (dL dS x.Name) (p++x::t) i=some ((i+k:Nat):Int)∧(k !=p.length)=B2 p x
 |[],i=>⟨0,by unfold ci;simp [dL,dS],rfl⟩
 |y::p,i=>by
  rw [y6]
  unfold ci
  rw [show dL dS x.Name y=some (y.Name==x.Name)from rfl,cn]
  cases h:(y.Name==x.Name)with
  |true=>exact⟨0,rfl,by unfold B2;rw [List.any_cons,h];rfl⟩
  |false=>
   obtain⟨k,h1,h2⟩:=Hu x t p (i+1)
   refine⟨k+1,by rw [di (by simp),h1];congr 2;omega,?_⟩
   unfold B2 at h2 ⊢
   rw [List.any_cons,h,sv,←h2,mv]
   rw [z8];simp
theorem Nl(x:aV)(p t:List aV): ∃k:Int,gN (p++x::t) dS x.Name=some (k,true)∧(k !=(p.length:Int))=B2 p x:=by
 obtain⟨k,h1,h2⟩:=Hu x t p 0
 refine⟨(k:Int),?_,?_⟩
 ·unfold gN ev
  rw [h1,cn,mu]
  have e1:max (k:Int) 0=(k:Int):=by omega
  have e2:decide ((0:Int)≤(k:Int))=true:=vU (by omega)
  rw [e1,e2]
 ·rw [←h2,z8];simp;omega
theorem Kv: ∀(t p:List aV),eE (p++t) dS t p.length=some (Gt p t)
 |[],p=>rfl
 |x::t,p=>by
  unfold eE
  obtain⟨k,h1,h2⟩:=Nl x p t
  rw [show dS x=some x.Name from rfl,cn,h1,cn]
  simp only [h2,cn,pm]
  unfold Gt
  have ih:=Kv t (p++[x])
  rw [qC,List.singleton_append,kN,List.length_singleton]at ih
  rw [ih]
  cases B2 p x<;>cases q0 x.Name<;>simp
theorem AB(l:List aV):jH l dS=some (Gt [] l):=Kv l []
theorem tL(t:bp): ∀(l:List aV) (ok:Bool),eV t l ok=ea t t.Keys 0 (ok&&l.all fun x=>zu x.Kind)
 |[],ok=>by unfold eV;simp
 |x::l,ok=>by
  unfold eV
  obtain⟨r,h1,h2⟩:=wi x.Kind
  cases ok with
  |false=>
   rw [di (by simp),cn,tL t l];simp
  |true=>
   rw [dq rfl,h1,cn,cn,tL t l,h2,vh];simp
def KQ(n:Nat):Option Int→List Int→Bool
 |_,[]=>true
 |o,k::t=>(decide (0≤k)&&decide (k<(n:Int))&&(o.all fun j=>decide (j<k)))&&KQ n (some k) t
theorem Fe(n:Nat)(o:Option Int)(k:Int)(t:List Int):KQ n o (k::t)=((decide (0≤k)&&decide (k<(n:Int))&&(o.all fun j=>decide (j<k)))&&KQ n (some k) t):=rfl
def Es(l:List Int):Nat→Option Int
 |0=>none
 |i+1=>l[i]?
theorem BH{l:List Int}(h:i<l.length):Es l (i+1)=some l[i]:=nT h
theorem Hv{l:List Int}(h:i+1≤l.length)(hl:l.length≤100000):eZ l (IntKind.i64.wrap (((i+1:Nat):Int)-1))=some l[i]:=by
 rw [show IntKind.i64.wrap (((i+1:Nat):Int)-1)=(i:Int) by rw [IntKind.wrap_i64];omega,c8,nT (by omega)]
theorem EB(t:bp)(hl:t.Keys.length≤100000): ∀(n i:Nat) (ok:Bool),t.Keys.length-i=n→i≤t.Keys.length→ea t (t.Keys.drop i) i ok=some (if ok&&KQ t.Columns.length (Es t.Keys i) (t.Keys.drop i)then 0 else 211)
 |0,i,ok,h,hi=>by
  rw [v7 (by omega)]
  unfold ea KQ
  cases ok<;>rfl
 |n+1,i,ok,h,hi=>by
  have hlt:i<t.Keys.length:=by omega
  rw [wK hlt,Fe]
  unfold ea
  have ih:=EB t hl n (i+1)
  rw [BH hlt]at ih
  cases ok with
  |false=>
   simp only [Bool.false_and,uC,pt,cn]
   rw [ih false (by omega) (by omega)];simp
  |true=>
   simp only [y4]
   by_cases h1:(0:Int)≤t.Keys[i]
   ·by_cases h2:t.Keys[i]<(t.Columns.length:Int)
    ·rw [dq (by rw [vU h1,vU h2];rfl),vU h1,vU h2]
     cases i with
     |zero=>
      rw [di (by simp),cn,cn,ih true (by omega) (by omega)]
      simp [Es]
     |succ j=>
      rw [dq (by simp;omega),Hv (by omega) hl,cn,cn,cn,ih _ (by omega) (by omega),BH (by omega)]
      simp [Option.all]
    ·rw [di (by rw [vV h2];simp),cn,ih false (by omega) (by omega),vV h2];simp
   ·rw [di (by rw [vV h1];simp),cn,ih false (by omega) (by omega),vV h1];simp
def uH(t:bp):Bool:=(q0 t.Name&&decide (1≤t.Columns.length)&&decide (t.Columns.length≤4))&&(Ke [] t.Columns&&KQ t.Columns.length none t.Keys)
theorem y0(t:bp)(hl:t.Keys.length≤100000):j8 t=some (if uH t then 0 else 211):=by
 unfold j8 uH
 rw [pm,cn,EW]
 have key:=EB t hl t.Keys.length 0
 rw [qJ]at key
 have e1:decide ((1:Int)≤(t.Columns.length:Int))=decide (1≤t.Columns.length):=by rw [y5];omega
 have e2:decide ((t.Columns.length:Int)≤(4:Int))=decide (t.Columns.length≤4):=by rw [y5];omega
 rw [e1,e2]
 cases h:(q0 t.Name&&decide (1≤t.Columns.length)&&decide (t.Columns.length≤4))with
 |false=>
  rw [di (by simp),cn,tL,key _ rfl (jM _)];simp
 |true=>
  rw [dq rfl,AB,cn,cn,tL,key _ rfl (jM _)]
  simp [Es]
def B0(p:List bp)(x:bp):Bool:=p.any fun y=>y.Name==x.Name
def C1:List bp→List bp→Bool
 |_,[]=>true
 |p,x::t=>(!B0 p x&&q0 x.Name)&&C1 (p++[x]) t
def Iy:List bp→List bp→Bool
 |_,[]=>true
 |p,x::t=>(uH x&& !B0 p x)&&Iy (p++[x]) t
theorem G2{t:bp}(h:uH t=true):q0 t.Name=true:=by
 unfold uH at h
 simp only [iP]at h
 exact h.1.1.1
theorem Aq: ∀(t p:List bp),Iy p t=(t.all uH&&C1 p t)
 |[],_=>rfl
 |x::t,p=>by
  unfold Iy C1
  rw [Aq t (p++[x]),vh]
  cases h:uH x with
  |false=>simp
  |true=>
   rw [G2 h]
   cases B0 p x<;>simp
theorem Ht(x:bp)(t:List bp): ∀(p:List bp) (i:Nat),∃k:Nat,bH (dY eg x.Name) (p++x::t) i=some ((i+k:Nat):Int)∧(k !=p.length)=B0 p x
 |[],i=>⟨0,by unfold bH;simp [dY,eg],rfl⟩
 |y::p,i=>by
  rw [y6]
  unfold bH
  rw [show dY eg x.Name y=some (y.Name==x.Name)from rfl,cn]
  cases h:(y.Name==x.Name)with
  |true=>exact⟨0,rfl,by unfold B0;rw [List.any_cons,h];rfl⟩
  |false=>
   obtain⟨k,h1,h2⟩:=Ht x t p (i+1)
   refine⟨k+1,by rw [di (by simp),h1];congr 2;omega,?_⟩
   unfold B0 at h2 ⊢
   rw [List.any_cons,h,sv,←h2,mv]
   rw [z8];simp
theorem Nk(x:bp)(p t:List bp): ∃k:Int,hU (p++x::t) eg x.Name=some (k,true)∧(k !=(p.length:Int))=B0 p x:=by
 obtain⟨k,h1,h2⟩:=Ht x t p 0
 refine⟨(k:Int),?_,?_⟩
 ·unfold hU cR
  rw [h1,cn,mu]
  have e1:max (k:Int) 0=(k:Int):=by omega
  have e2:decide ((0:Int)≤(k:Int))=true:=vU (by omega)
  rw [e1,e2]
 ·rw [←h2,z8];simp;omega
theorem Ku: ∀(t p:List bp),eM (p++t) eg t p.length=some (C1 p t)
 |[],p=>rfl
 |x::t,p=>by
  unfold eM
  obtain⟨k,h1,h2⟩:=Nk x p t
  rw [show eg x=some x.Name from rfl,cn,h1,cn]
  simp only [h2,cn,pm]
  unfold C1
  have ih:=Ku t (p++[x])
  rw [qC,List.singleton_append,kN,List.length_singleton]at ih
  rw [ih]
  cases B0 p x<;>cases q0 x.Name<;>simp
def qq(c:bA):Prop:= ∀t∈c.Tables,t.Keys.length≤100000
theorem uf: ∀(l:List bp) (i:Nat),(∀t∈l,t.Keys.length≤100000)→ ∃j:Int,bH iO l i=some j∧decide (0≤j)= !l.all uH
 |[],i,_=>⟨-1,rfl,rfl⟩
 |x::l,i,h=>by
  unfold bH
  rw [show iO x=some (!uH x) by unfold iO;rw [y0 x (h x (lI ..)),cn];cases uH x<;>rfl,cn,vh]
  cases hx:uH x with
  |false=>exact⟨(i:Int),rfl,by simp⟩
  |true=>
   obtain⟨j,h1,h2⟩:=uf l (i+1) fun t ht=>h t (ly _ ht)
   exact⟨j,by simpa using h1,by simpa using h2⟩
def Cn(c:bA):Bool:=decide (c.Tables.length≤4)&&Iy [] c.Tables
theorem va{c:bA}(h:qq c):nt c=some (if Cn c then 0 else 210):=by
 unfold nt Cn
 obtain⟨j,h1,h2⟩:=uf c.Tables 0 h
 have h3:j7 c.Tables eg=some (C1 [] c.Tables):=Ku c.Tables []
 rw [Aq]
 by_cases hl:c.Tables.length≤4
 ·rw [vV (show¬(4:Int)<(c.Tables.length:Int) by omega),vU hl]
  unfold ej cR
  rw [h1,h3]
  simp only [Bool.not_false,pf,cn,h2]
  cases c.Tables.all uH<;>cases C1 [] c.Tables<;>rfl
 ·rw [vU (show(4:Int)<(c.Tables.length:Int) by omega),vV hl];rfl
end Go.Proofs.YtmogpgcfognefaaGreatDoor

