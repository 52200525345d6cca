/- dr of this claim: L12, Q1, Q2. -/
import Derived.Test.YtnmjbolollcokaaGreatDoorRdQ3
import Derived.Test.YtnmjbolollcokaaGreatDoorRdQ1
import Derived.Laws.RangeAny
import Derived.Shelf.Strings.CaseAny
set_option linter.all false
namespace Go.Proofs.YtnmjbolollcokaaGreatDoor
open Go

variable{l:bR}
section
variable{d:bR}{sz sz' :Nat→Nat}{ks ks' :Nat→List Int}
theorem Cf{j:Nat}{n:af}(F:BS l sz ks j n):(n.A= -1∨0≤n.A∧n.A<(j:Int))∧(n.B= -1∨0≤n.B∧n.B<(j:Int)):=by
 by_cases c1:n.Op=1
 ·obtain⟨a,b,_⟩:=F.lf c1
  exact⟨.inl a,.inl b⟩
 by_cases c27:n.Op=2∨n.Op=7
 ·obtain⟨a,b,c,d,e⟩:=F.bi c27
  exact⟨.inr (by omega),.inr (by omega)⟩
 ·obtain⟨a,b,c,d⟩:=F.un c1 (fun h=>c27 (.inl h)) (fun h=>c27 (.inr h))
  exact⟨.inr (by omega),.inl c⟩
theorem QG{e:Nat}{x:Int}(h:0≤x)(h2:x≤10000)(h3:e≤10000):xp (e:Int) x=x+e:=by
 unfold xp
 rw [bS h,cA (by omega) (by omega)]
theorem X0{e m:Nat}(H:CW l sz ks)(H' :CW d sz' ks')(hm:m≤l.Nodes.length)(hl:l.Nodes.length≤200)(he:e≤200)(hd:e+m≤d.Nodes.length)(hn: ∀j,j<m→ ∀n,dw l.Nodes (j:Int)=some n→dw d.Nodes ((e+j:Nat):Int)=some (uy (e:Int) n)): ∀j,j<m→sz' (e+j)=sz j∧ks' (e+j)=ks j:=by
 intro j
 induction j using Nat.strongRecOn with
 |ind j ih=>
  intro hj
  obtain⟨n,F⟩:=H j (by omega)
  obtain⟨n',F'⟩:=H' (e+j) (by omega)
  have hnn:n' =uy (e:Int) n:=by
   have h1:=hn j hj n F.node
   rw [F'.node]at h1
   injection h1
  subst hnn
  obtain⟨hA,hB⟩:=Cf F
  constructor
  ·by_cases c1:n.Op=1
   ·rw [(F'.lf c1).2.2,(F.lf c1).2.2]
   by_cases c27:n.Op=2∨n.Op=7
   ·obtain⟨a,b,c,g,q⟩:=F.bi c27
    obtain⟨a',b',c',g',q'⟩:=F'.bi c27
    have ej:e+j-1=e+(j-1):=by omega
    rw [ej,(ih (j-1) (by omega) (by omega)).1,show e+(j-1)-sz (j-1)=e+(j-1-sz (j-1))from by omega,(ih (j-1-sz (j-1)) (by omega) (by omega)).1]at q'
    rw [q',q]
   ·obtain⟨a,b,c,g⟩:=F.un c1 (fun h=>c27 (.inl h)) (fun h=>c27 (.inr h))
    obtain⟨a',b',c',g'⟩:=F'.un c1 (fun h=>c27 (.inl h)) (fun h=>c27 (.inr h))
    rw [show e+j-1=e+(j-1)from by omega,(ih (j-1) (by omega) (by omega)).1]at g'
    rw [g',g]
  ·have key: ∀x:Int,(x= -1∨0≤x∧x<(j:Int))→(if xp (e:Int) x<0 then([]:List Int)else ks' (xp (e:Int) x).toNat)=if x<0 then []else ks x.toNat:=by
    intro x hx
    rcases hx with hx|hx
    ·rw [Ai hx,bS (by decide),bS (by omega)]
    ·rw [QG (by omega) (by omega) (by omega),bM (by omega),bM (by omega),show(x+(e:Int)).toNat=e+x.toNat from by omega,(ih x.toNat (by omega) (by omega)).2]
   have h1:=F'.kinds
   have hA' :(uy (e:Int) n).A=xp (e:Int) n.A:=rfl
   have hB' :(uy (e:Int) n).B=xp (e:Int) n.B:=rfl
   rw [IL,hA',hB',key n.A hA,key n.B hB,F.kinds]at h1
   injection h1 with h1
   injection h1 with h1 _
   exact h1.symm
end
structure S5(l:bR)(sz:Nat→Nat)(ks:Nat→List Int):Prop where
 pos:1≤l.Nodes.length
 le:l.Nodes.length≤60
 all:CW l sz ks
 whole:sz (l.Nodes.length-1)=l.Nodes.length
 kinds:sE l=some (ks (l.Nodes.length-1),0)
theorem O3(hS:p9 l)(h:sQ l=true): ∃sz ks,S5 l sz ks:=by
 obtain⟨_,_,ob,j,r3,r4⟩:=If hS
 obtain⟨hL,hj⟩:=r4 h
 have hle:=hL.le
 have hpos:=hL.pos
 obtain⟨N0,_⟩:=hL.inv.at (j:=l.Nodes.length-1) (by omega)
 refine⟨wY ob.first,EH ob.kinds,hpos,hle,fun j hj=>AO hL.inv hle hj,?_,?_⟩
 ·have e1:=N0.size cZ (iF (by omega))
  have e2:=hL.whole
  unfold kh at e2
  rw [show(l.Nodes.length:Int)-1=((l.Nodes.length-1:Nat):Int)from by omega,e1]at e2
  injection e2 with e2
  omega
 ·unfold sE
  rw [r3,h]
  simp only [bC,oh,mA,ji]
  have hk:dw ob.kinds j=some (EH ob.kinds (l.Nodes.length-1)):=by
   rw [hj,show(l.Nodes.length:Int)-1=((l.Nodes.length-1:Nat):Int)from by omega,cQ]
   unfold EH
   rw [q6 (by rw [hL.inv.kl];omega)];rfl
  rw [hk]
  simp only [bC]
  rw [tI _ (by have:=N0.len;omega)]
  rfl
theorem IK{sz sz' :Nat→Nat}{ks ks' :Nat→List Int}(hS:p9 l)(K:S5 l sz ks)(H:CW l sz' ks'):ks' (l.Nodes.length-1)=ks (l.Nodes.length-1)∧sz' (l.Nodes.length-1)=l.Nodes.length:=by
 have hle:=K.le
 have hpos:=K.pos
 have:=X0 (l:=l) (d:=l) (e:=0) (m:=l.Nodes.length) K.all H (eW _) (by omega) (by omega) (by omega) (fun j hj n hn=>by
  obtain⟨n',F⟩:=K.all j hj
  have e:n' =n:=by have:=F.node;rw [hn]at this;injection this with this;exact this.symm
  subst e
  obtain⟨hA,hB⟩:=Cf F
  rw [q7,hn]
  have hz:=H0 (n:=n') (by omega) (by omega)
  rw [show((0:Nat):Int)=0 from rfl,hz]) (l.Nodes.length-1) (by omega)
 simp only [q7]at this
 exact⟨this.2,by rw [this.1];exact K.whole⟩

def ou(n:Nat):Bool:=decide (97≤n)&&decide (n≤122)
def wD(n:Nat):Bool:=decide (48≤n)&&decide (n≤57)
def Vo(n:Nat):Bool:=ou n||wD n||n==95
def QP(b:UInt8):Bool:=Vo b.toNat
theorem wp(n:Nat):vD (n:Int)=some (ou n):=by
 unfold vD ou
 congr 2<;>(rw [Di];omega)
theorem AB(n:Nat):yx (n:Int)=some (wD n):=by
 unfold yx wD
 congr 2<;>(rw [Di];omega)
theorem ua(n:Nat):sr (n:Int)=some (ou n):=wp n
theorem DP(n:Nat):xz (n:Int)=some (wD n):=AB n
theorem Kk{n:Nat}(h:Vo n=true):n<128:=by
 unfold Vo ou wD at h
 simp only [xa,lH,q8,wJ]at h
 omega
theorem Qe(n:Nat):((n:Int) !=(95:Int))= !(n==95):=by
 rw [bne,yF]
 simp only [Be,beq_eq_false_iff_ne,ne_eq]
 omega
variable{i:Nat}
theorem PS{s:jb}(h:i<s.length)(hb:(s[i]).toNat<128):tA s i=((s[i]).toNat,1):=
 decode_ascii ⟨s.toArray⟩ i (show i<(ByteArray.mk s.toArray).size from h) hb
theorem Ny{s:jb}(h:i<s.length)(hb: ¬(s[i]).toNat<128):128≤(tA s i).1:=
 (decode_high ⟨s.toArray⟩ i (show i<(ByteArray.mk s.toArray).size from h) (show 128≤(s[i]).toNat by omega)).1
theorem Ib(s:jb): ∀(f i:Nat),s.length<i+f→pH (tX s f i)=some ((s.drop i).all QP)
 |0,i,h=>by
  rw [vc (by omega)];rfl
 |f+1,i,h=>by
  unfold tX
  by_cases hi:i<s.length
  ·rw [bS hi]
   unfold pH
   simp only [AB,wp,bC,Qe]
   rw [r0 hi,w9]
   by_cases hb:(s[i]).toNat<128
   ·rw [PS hi hb]
    simp only []
    have ih:=Ib s f (i+1) (by omega)
    have e:QP s[i]=(ou (s[i]).toNat||wD (s[i]).toNat||(s[i]).toNat==95):=rfl
    rw [e]
    cases h1:wD (s[i]).toNat<;>cases h2:ou (s[i]).toNat<;>cases h3:((s[i]).toNat==95)<;>simp [ih]
   ·have hh:=Ny hi hb
    have e:QP s[i]=false:=by
     cases ho:QP s[i]with
     |false=>rfl
     |true=>exact absurd (Kk ho) hb
    have e2:Vo (tA s i).1=false:=by
     cases ho:Vo (tA s i).1 with
     |false=>rfl
     |true=>have:=Kk ho;omega
    rw [e,E7]
    unfold Vo at e2
    simp only [HJ]at e2
    obtain⟨⟨h2,h1⟩,h3⟩:=e2
    simp [h1,h2,h3]
  ·rw [bM hi,vc (by omega)];rfl
def Fi(s:jb):Bool:=VW.any fun w=>w==s
theorem Jx(v:jb): ∀(l:List jb) (i:Nat),∃j:Int,fE v l i=some j∧decide (0≤j)=l.any fun w=>w==v
 |[],i=>⟨-1,rfl,rfl⟩
 |e::l,i=>by
  unfold fE
  by_cases h:v=e
  ·subst h
   exact⟨(i:Int),by simp,by simp⟩
  ·obtain⟨j,h1,h2⟩:=Jx v l (i+1)
   exact⟨j,by simp [h,h1],by simp [h2,Ne.symm h]⟩
theorem y5(s:jb):wq s=some (Fi s):=by
 unfold wq jM k6
 obtain⟨j,h1,h2⟩:=Jx s VW 0
 rw [h1]
 simp only [bC,h2]
 rfl
theorem Pe(s:jb): ∀l:List jb,qC s l=some (l.any fun w=>w==s)
 |[]=>rfl
 |e::l=>by
  unfold qC
  rw [Pe s l,xd]
  cases (e==s)<;>rfl
theorem CK(s:jb):th s=some (Fi s):=by
 unfold th xA Bv
 rw [bC,Pe]
 rfl
def Od(b:UInt8):UInt8:=UInt8.ofNat (if ou b.toNat then b.toNat-32 else b.toNat)
theorem My: ∀b:UInt8,Od b=Lib.upperB b:=by
 intro b
 have key: ∀i:Fin 256,Od (UInt8.ofNat i.val)=Lib.upperB (UInt8.ofNat i.val):=by decide+kernel
 have:=key ⟨b.toNat,b.toNat_lt⟩
 simpa using this
theorem Ag(a b:List Int):s5 (a++b)=s5 a++s5 b:=by simp [s5]
theorem xW(s:jb)(hs:s.length≤1000): ∀(n i:Nat) (out:List Int),s.length<i+n→out.length≤i→i≤s.length→ld s n out (i:Int)=some (s5 out++(s.drop i).map Od)
 |0,i,out,h,_,h2=>by omega
 |n+1,i,out,h,h1,h2=>by
  unfold ld
  by_cases hi:i<s.length
  ·rw [bS (by rw [q8];omega)]
   have e:AH s (i:Int)=some ((s[i]).toNat:Int):=by
    unfold AH
    rw [cQ,q6 hi];rfl
   have hw:IntKind.i64.wrap ((i:Int)+1)=((i+1:Nat):Int):=by rw [yS];omega
   rw [e,bC,ua,bC,r0 hi,yE]
   have hlt:=(s[i]).toNat_lt
   cases hsm:ou (s[i]).toNat with
   |true=>
    have h97:97≤(s[i]).toNat∧(s[i]).toNat≤122:=by simpa [ou] using hsm
    have hc:IntKind.u8.wrap (IntKind.u8.wrap (((s[i]).toNat:Int)-97)+65)=(((s[i]).toNat-32:Nat):Int):=by
     rw [IntKind.wrap_u8,IntKind.wrap_u8];omega
    rw [bS rfl,hc]
    unfold oE
    rw [cP (by simp;omega),bC,hw,xW s hs n (i+1) _ (by omega) (by simp;omega) (by omega),Ag,iS]
    congr 2
    show s5 [_]++_=_
    simp only [s5,yE,z6,Bd,ke]
    congr 1
    simp [Od,hsm]
   |false=>
    rw [bM (by simp)]
    unfold oE
    rw [cP (by simp;omega),bC,hw,xW s hs n (i+1) _ (by omega) (by simp;omega) (by omega),Ag,iS]
    congr 2
    show s5 [_]++_=_
    simp only [s5,yE,z6,Bd,ke]
    congr 1
    simp [Od,hsm]
  ·rw [bM (by rw [q8];omega),vc (by omega)]
   simp
theorem DQ(s:jb)(hs:s.length≤1000):uK s=some (s.map Od):=by
 unfold uK
 rw [show((0:Int))=((0:Nat):Int)from rfl,xW s hs cZ 0 [] (by unfold cZ;omega) (eW _) (iP _)]
 rfl
theorem E3(s:jb)(hs:s.length≤1000)(ha: ∀b∈s,QP b=true):kg s=some (s.map Od):=by
 unfold kg
 rw [bS (by omega),Lib.toUpperD_ascii s (fun b hb=>Kk (ha b hb))]
 unfold Lib.toUpperA
 rw [show Od=Lib.upperB from funext My]
def Pd:jb→Bool
 |[]=>false
 |b::_=>ou b.toNat
def sC(s:jb):Bool:=(decide (1≤s.length)&&decide (s.length≤16)&&Pd s)&&(!Fi (s.map Od)&&s.all QP)
theorem FV{b:UInt8}{t:jb}:AH (b::t) (0:Int)=some (b.toNat:Int):=by unfold AH;rfl
theorem vm(s:jb):ro s=some (sC s):=by
 unfold ro sC
 cases s with
 |nil=>rfl
 |cons b t=>
  by_cases hl:(b::t).length≤16
  ·rw [bS (by rw [show((b::t)==([]:jb))=false from rfl,wS,Be,Df];omega),FV,bC]
   have hb:=b.toNat_lt
   rw [show IntKind.i32.wrap (b.toNat:Int)=(b.toNat:Int) by rw [IntKind.wrap_i32];omega,wp,bC,bC]
   have e0:(decide (1≤(b::t).length)&&decide ((b::t).length≤16)&&Pd (b::t))=ou b.toNat:=by
    rw [qn (show 1≤(b::t).length by simp),qn hl];rfl
   rw [e0]
   cases hsm:ou b.toNat with
   |false=>rfl
   |true=>
    have hr:=Ib (b::t) ((b::t).length+1) 0 (by omega)
    rw [sM]at hr
    have hT:kg (b::t)=some (Lib.toUpperD (b::t)):=by unfold kg;rw [bS (by omega)]
    simp only [oh,Bb,jW]
    cases ha:(b::t).all QP with
    |true=>
     rw [E3 (b::t) (by omega) (fun c hc=>pi.1 ha c hc),bC,y5,bC,bC]
     unfold Ic
     rw [hr,ha]
     cases Fi ((b::t).map Od)<;>rfl
    |false=>
     rw [hT,bC,y5,bC,bC]
     unfold Ic
     rw [hr,ha]
     cases Fi (Lib.toUpperD (b::t))<;>simp
  ·rw [bM (by rw [show((b::t)==([]:jb))=false from rfl,wS,Be,Df,Classical.not_not];omega)]
   rw [oQ hl]
   simp
theorem A6(s:jb)(hs:s.length≤1000): ∀(n i:Nat),s.length<i+n→i≤s.length→nH s n (i:Int)=some ((s.drop i).all QP)
 |0,i,h,h2=>by omega
 |n+1,i,h,h2=>by
  unfold nH
  by_cases hi:i<s.length
  ·rw [bS (by rw [q8];omega)]
   have e:AH s (i:Int)=some ((s[i]).toNat:Int):=by
    unfold AH
    rw [cQ,q6 hi];rfl
   have hw:IntKind.i64.wrap ((i:Int)+1)=((i+1:Nat):Int):=by rw [yS];omega
   simp only [e,bC,ua,DP,Qe,hw]
   rw [A6 s hs n (i+1) (by omega) (by omega),r0 hi,w9]
   have e2:QP s[i]=(ou (s[i]).toNat||wD (s[i]).toNat||(s[i]).toNat==95):=rfl
   rw [e2]
   cases h1:wD (s[i]).toNat<;>cases h2:ou (s[i]).toNat<;>cases h3:((s[i]).toNat==95)<;>simp
  ·rw [bM (by rw [q8];omega),vc (by omega)]
   rfl
theorem wL(s:jb):qD s=some (sC s):=by
 unfold qD sC
 cases s with
 |nil=>rfl
 |cons b t=>
  by_cases hl:(b::t).length≤16
  ·rw [bS (by rw [Be,HJ,Df,Df];simp at hl ⊢;omega),FV,bC,ua,bC,bC]
   have e0:(decide (1≤(b::t).length)&&decide ((b::t).length≤16)&&Pd (b::t))=ou b.toNat:=by
    rw [qn (show 1≤(b::t).length by simp),qn hl];rfl
   rw [e0]
   cases hsm:ou b.toNat with
   |false=>rfl
   |true=>
    simp only [oh,Bb,jW]
    rw [DQ _ (by omega),bC,CK,bC,bC,show((0:Int))=((0:Nat):Int)from rfl,A6 _ (by omega) cZ 0 (by unfold cZ;omega) (iP _),sM]
    cases Fi ((b::t).map Od)<;>simp
  ·rw [bM (by rw [Be,HJ,Df,Df];omega)]
   rw [oQ hl]
   simp

def xL(k:Int):Bool:=k==1||k==2||k==3
theorem CR(k:Int): ∃r,tE k=some r∧(r==([]:jb))= !xL k:=by
 have g0:dw T5 ((0:Nat):Int)=some ⟨[98,111,111,108],1⟩:=rfl
 have g1:dw T5 ((0+1:Nat):Int)=some ⟨[105,110,116],2⟩:=rfl
 have g2:dw T5 ((0+1+1:Nat):Int)=some ⟨[116,101,120,116],3⟩:=rfl
 unfold tE
 by_cases h1:k=1
 ·subst h1;exact⟨_,by simp only [kp,g0,bC];rfl,rfl⟩
 by_cases h2:k=2
 ·subst h2;exact⟨_,by simp only [kp,g0,g1,bC];rfl,rfl⟩
 by_cases h3:k=3
 ·subst h3;exact⟨_,by simp only [kp,g0,g1,g2,bC];rfl,rfl⟩
 have n1:((1:Int)==k)=false:=by simpa using Ne.symm h1
 have n2:((2:Int)==k)=false:=by simpa using Ne.symm h2
 have n3:((3:Int)==k)=false:=by simpa using Ne.symm h3
 refine⟨[],?_,?_⟩
 ·simp only [kp,g0,g1,g2,bC,n1,n2,n3];rfl
 ·simp [xL,h1,h2,h3]
theorem EO(k:Int): ∃r,wg k=some r∧(r==([]:jb))= !xL k:=by
 unfold wg
 by_cases h1:k=1
 ·subst h1;exact⟨_,rfl,rfl⟩
 by_cases h2:k=2
 ·subst h2;exact⟨_,rfl,rfl⟩
 by_cases h3:k=3
 ·subst h3;exact⟨_,rfl,rfl⟩
 exact⟨[],by simp [h1,h2,h3],by simp [xL,h1,h2,h3]⟩
def G2(p:List bT)(x:bT):Bool:=p.any fun y=>y.Name==x.Name
def Nz:List bT→List bT→Bool
 |_,[]=>true
 |p,x::t=>(!G2 p x&&sC x.Name)&&Nz (p++[x]) t
def KG:List bT→List bT→Bool
 |_,[]=>true
 |p,x::t=>(sC x.Name&&xL x.Kind&& !G2 p x)&&KG (p++[x]) t
theorem LS: ∀(t p:List bT),KG p t=(Nz p t&&t.all fun x=>xL x.Kind)
 |[],_=>rfl
 |x::t,p=>by
  unfold KG Nz
  rw [LS t (p++[x]),w9]
  cases G2 p x<;>cases sC x.Name<;>cases xL x.Kind<;>simp
theorem Pa(x:bT)(t:List bT): ∀(p:List bT) (i:Nat),∃k:Nat,cW (fI fO x.Name) (p++x::t) i=some ((i+k:Nat):Int)∧(k !=p.length)=G2 p x
 |[],i=>⟨0,by unfold cW;simp [fI,fO],rfl⟩
 |y::p,i=>by
  rw [Bd]
  unfold cW
  rw [show fI fO x.Name y=some (y.Name==x.Name)from rfl,bC]
  cases h:(y.Name==x.Name)with
  |true=>exact⟨0,rfl,by unfold G2;rw [xd,h];rfl⟩
  |false=>
   obtain⟨k,h1,h2⟩:=Pa x t p (i+1)
   refine⟨k+1,by rw [bM (by simp),h1];congr 2;omega,?_⟩
   unfold G2 at h2 ⊢
   rw [xd,h,wS,←h2,iR]
   rw [yF];simp
theorem V0(x:bT)(p t:List bT): ∃k:Int,j8 (p++x::t) fO x.Name=some (k,true)∧(k !=(p.length:Int))=G2 p x:=by
 obtain⟨k,h1,h2⟩:=Pa x t p 0
 refine⟨(k:Int),?_,?_⟩
 ·unfold j8 gw
  rw [h1,bC,q7]
  have e1:max (k:Int) 0=(k:Int):=by omega
  have e2:decide ((0:Int)≤(k:Int))=true:=qn (by omega)
  rw [e1,e2]
 ·rw [←h2,yF];simp;omega
theorem SE: ∀(t p:List bT),gE (p++t) fO t p.length=some (Nz p t)
 |[],p=>rfl
 |x::t,p=>by
  unfold gE
  obtain⟨k,h1,h2⟩:=V0 x p t
  rw [show fO x=some x.Name from rfl,bC,h1,bC]
  simp only [h2,bC,vm]
  unfold Nz
  have ih:=SE t (p++[x])
  rw [iS,KZ,lw,List.length_singleton]at ih
  rw [ih]
  cases G2 p x<;>cases sC x.Name<;>simp
theorem GR(l:List bT):m5 l fO=some (Nz [] l):=SE l []
theorem AG(t:ca): ∀(l:List bT) (ok:Bool),ij t l ok=gh t t.Keys 0 (ok&&l.all fun x=>xL x.Kind)
 |[],ok=>by unfold ij;simp
 |x::l,ok=>by
  unfold ij
  obtain⟨r,h1,h2⟩:=CR x.Kind
  cases ok with
  |false=>
   rw [bM (by simp),bC,AG t l];simp
  |true=>
   rw [bS rfl,h1,bC,bC,AG t l,h2,w9];simp
def KQ(n:Nat):Option Int→List Int→Bool
 |_,[]=>true
 |o,k::t=>(decide (0≤k)&&decide (k<(n:Int))&&(o.all fun j=>decide (j<k)))&&KQ n (some k) t
theorem Mn(n:Nat)(o:Option Int)(k:Int)(t:List Int):KQ n o (k::t)=((decide (0≤k)&&decide (k<(n:Int))&&(o.all fun j=>decide (j<k)))&&KQ n (some k) t):=rfl
def FF(l:List Int):Nat→Option Int
 |0=>none
 |i+1=>l[i]?
theorem Aq{l:List Int}(h:i<l.length):FF l (i+1)=some l[i]:=q6 h
theorem IU{l:List Int}(h:i+1≤l.length)(hl:l.length≤100000):dw l (IntKind.i64.wrap (((i+1:Nat):Int)-1))=some l[i]:=by
 rw [show IntKind.i64.wrap (((i+1:Nat):Int)-1)=(i:Int) by rw [yS];omega,cQ,q6 (by omega)]
theorem Lr(t:ca)(hl:t.Keys.length≤100000): ∀(n i:Nat) (ok:Bool),t.Keys.length-i=n→i≤t.Keys.length→gh t (t.Keys.drop i) i ok=some (if ok&&KQ t.Columns.length (FF t.Keys i) (t.Keys.drop i)then 0 else 211)
 |0,i,ok,h,hi=>by
  rw [vc (by omega)]
  unfold gh KQ
  cases ok<;>rfl
 |n+1,i,ok,h,hi=>by
  have hlt:i<t.Keys.length:=by omega
  rw [r0 hlt,Mn]
  unfold gh
  have ih:=Lr t hl n (i+1)
  rw [Aq hlt]at ih
  cases ok with
  |false=>
   simp only [E7,mA,ji,bC]
   rw [ih false (by omega) (by omega)];simp
  |true=>
   simp only [w8]
   by_cases h1:(0:Int)≤t.Keys[i]
   ·by_cases h2:t.Keys[i]<(t.Columns.length:Int)
    ·rw [bS (by rw [qn h1,qn h2];rfl),qn h1,qn h2]
     cases i with
     |zero=>
      rw [bM (by simp),bC,bC,ih true (by omega) (by omega)]
      simp [FF]
     |succ j=>
      rw [bS (by simp;omega),IU (by omega) hl,bC,bC,bC,ih _ (by omega) (by omega),Aq (by omega)]
      simp [Option.all]
    ·rw [bM (by rw [oQ h2];simp),bC,ih false (by omega) (by omega),oQ h2];simp
   ·rw [bM (by rw [oQ h1];simp),bC,ih false (by omega) (by omega),oQ h1];simp
theorem Ih(t:ca)(hl:t.Keys.length≤100000): ∀(n i:Nat),t.Keys.length<i+n→i≤t.Keys.length→kC t n (i:Int)=some (KQ t.Columns.length (FF t.Keys i) (t.Keys.drop i))
 |0,i,h,hi=>by omega
 |n+1,i,h,hi=>by
  unfold kC
  by_cases hlt:i<t.Keys.length
  ·have hw:IntKind.i64.wrap ((i:Int)+1)=((i+1:Nat):Int):=by rw [yS];omega
   have ih:=Ih t hl n (i+1) (by omega) (by omega)
   rw [Aq hlt]at ih
   rw [bS (by rw [q8];omega),cQ,q6 hlt,bC,hw,ih,r0 hlt,Mn]
   by_cases h1:(0:Int)≤t.Keys[i]
   ·by_cases h2:t.Keys[i]<(t.Columns.length:Int)
    ·rw [bS (by rw [oQ (show¬t.Keys[i]<0 by omega),oQ (show¬(t.Columns.length:Int)≤t.Keys[i] by omega)];rfl),qn h1,qn h2]
     cases i with
     |zero=>
      rw [bM (by simp)]
      simp [FF]
     |succ j=>
      rw [bS (by rw [q8];omega),IU (by omega) hl,Aq (show j<t.Keys.length by omega)]
      simp only [bC,Option.all,w8]
      by_cases h3:t.Keys[j]<t.Keys[j+1]
      ·rw [qn h3,oQ (show¬t.Keys[j+1]≤t.Keys[j] by omega)];simp
      ·rw [oQ h3,qn (show t.Keys[j+1]≤t.Keys[j] by omega)];simp
    ·rw [bM (by rw [qn (show(t.Columns.length:Int)≤t.Keys[i] by omega)];simp),oQ h2];simp
   ·rw [bM (by rw [qn (show t.Keys[i]<0 by omega)];simp),oQ h1];simp
  ·rw [bM (by rw [q8];omega),vc (by omega)];rfl
def xk(t:ca):Bool:=(sC t.Name&&decide (1≤t.Columns.length)&&decide (t.Columns.length≤4))&&(KG [] t.Columns&&KQ t.Columns.length none t.Keys)
theorem E6(t:ca)(hl:t.Keys.length≤100000):nv t=some (if xk t then 0 else 211):=by
 unfold nv xk
 rw [vm,bC,LS]
 have key:=Lr t hl t.Keys.length 0
 rw [sM]at key
 have e1:decide ((1:Int)≤(t.Columns.length:Int))=decide (1≤t.Columns.length):=by rw [Di];omega
 have e2:decide ((t.Columns.length:Int)≤(4:Int))=decide (t.Columns.length≤4):=by rw [Di];omega
 rw [e1,e2]
 cases h:(sC t.Name&&decide (1≤t.Columns.length)&&decide (t.Columns.length≤4))with
 |false=>
  rw [bM (by simp),bC,AG,key _ rfl (iP _)];simp
 |true=>
  rw [bS rfl,GR,bC,bC,AG,key _ rfl (iP _)]
  simp [FF]
theorem FD(t:ca)(nx:Int→Option Bool)(i:Nat)(hi:i<t.Columns.length)(hn:t.Columns.length≤4)(e:bT): ∀(n k:Nat),i<k+n→k≤i→kD t nx (i:Int) e n (k:Int)=if((t.Columns.take i).drop k).any (fun y=>y.Name==e.Name)then some false else nx ((i+1:Nat):Int)
 |0,k,h,hk=>by omega
 |n+1,k,h,hk=>by
  unfold kD
  by_cases hlt:k<i
  ·have hw:IntKind.i64.wrap ((k:Int)+1)=((k+1:Nat):Int):=by rw [yS];omega
   have hl2:k<(t.Columns.take i).length:=by simp;omega
   rw [bS (by rw [q8];omega),cQ,q6 (by omega),bC,hw,FD t nx i hi hn e n (k+1) (by omega) (by omega),r0 hl2,xd,List.getElem_take]
   cases (t.Columns[k].Name==e.Name)<;>simp
  ·have hw:IntKind.i64.wrap ((i:Int)+1)=((i+1:Nat):Int):=by rw [yS];omega
   rw [bM (by rw [q8];omega),hw,vc (by simp;omega)]
   simp
theorem Li(t:ca)(hn:t.Columns.length≤4)(hl:t.Keys.length≤100000): ∀(n i:Nat),t.Columns.length<i+n→i≤t.Columns.length→je t n (i:Int)=some (KG (t.Columns.take i) (t.Columns.drop i)&&KQ t.Columns.length none t.Keys)
 |0,i,h,hi=>by omega
 |n+1,i,h,hi=>by
  unfold je
  by_cases hlt:i<t.Columns.length
  ·obtain⟨r,h1,h2⟩:=EO t.Columns[i].Kind
   have ih:=Li t hn hl n (i+1) (by omega) (by omega)
   rw [bS (by rw [q8];omega),cQ,q6 hlt,bC,wL,bC,h1,show((0:Int))=((0:Nat):Int)from rfl,FD t _ i hlt hn _ cZ 0 (by unfold cZ;omega) (iP _),ih,sM,r0 hlt,Mt hlt,show∀p x t,KG p (x::t)=((sC x.Name&&xL x.Kind&& !G2 p x)&&KG (p++[x]) t)from fun _ _ _=>rfl]
   simp only [bC,h2]
   show _=some ((sC t.Columns[i].Name&&xL t.Columns[i].Kind&& !((t.Columns.take i).any fun y=>y.Name==t.Columns[i].Name))&&_&&_)
   cases sC t.Columns[i].Name<;>cases xL t.Columns[i].Kind<;>cases ((t.Columns.take i).any fun y=>y.Name==t.Columns[i].Name)<;>simp
  ·rw [bM (by rw [q8];omega),show((0:Int))=((0:Nat):Int)from rfl,Ih t hl cZ 0 (by unfold cZ;omega) (iP _),vc (show t.Columns.length≤i by omega),sM]
   rfl
theorem E5(t:ca)(hl:t.Keys.length≤100000):oY t=some (xk t):=by
 unfold oY xk
 rw [wL,bC]
 by_cases h1:1≤t.Columns.length
 ·by_cases h2:t.Columns.length≤4
  ·rw [oQ (show¬(t.Columns.length:Int)<1 by omega),oQ (show¬(4:Int)<(t.Columns.length:Int) by omega),qn h1,qn h2,show((0:Int))=((0:Nat):Int)from rfl,Li t h2 hl cZ 0 (by unfold cZ;omega) (iP _),List.take_zero,sM]
   cases sC t.Name<;>simp
  ·rw [qn (show(4:Int)<(t.Columns.length:Int) by omega),oQ h2];simp
 ·rw [qn (show(t.Columns.length:Int)<1 by omega),oQ h1];simp
def G1(p:List ca)(x:ca):Bool:=p.any fun y=>y.Name==x.Name
def JT:List ca→List ca→Bool
 |_,[]=>true
 |p,x::t=>(!G1 p x&&sC x.Name)&&JT (p++[x]) t
def JS:List ca→List ca→Bool
 |_,[]=>true
 |p,x::t=>(xk x&& !G1 p x)&&JS (p++[x]) t
theorem Oq{t:ca}(h:xk t=true):sC t.Name=true:=by
 unfold xk at h
 simp only [lH]at h
 exact h.1.1.1
theorem Ld: ∀(t p:List ca),JS p t=(t.all xk&&JT p t)
 |[],_=>rfl
 |x::t,p=>by
  unfold JS JT
  rw [Ld t (p++[x]),w9]
  cases h:xk x with
  |false=>simp
  |true=>
   rw [Oq h]
   cases G1 p x<;>simp
theorem O9(x:ca)(t:List ca): ∀(p:List ca) (i:Nat),∃k:Nat,cy (fZ gp x.Name) (p++x::t) i=some ((i+k:Nat):Int)∧(k !=p.length)=G1 p x
 |[],i=>⟨0,by unfold cy;simp [fZ,gp],rfl⟩
 |y::p,i=>by
  rw [Bd]
  unfold cy
  rw [show fZ gp x.Name y=some (y.Name==x.Name)from rfl,bC]
  cases h:(y.Name==x.Name)with
  |true=>exact⟨0,rfl,by unfold G1;rw [xd,h];rfl⟩
  |false=>
   obtain⟨k,h1,h2⟩:=O9 x t p (i+1)
   refine⟨k+1,by rw [bM (by simp),h1];congr 2;omega,?_⟩
   unfold G1 at h2 ⊢
   rw [xd,h,wS,←h2,iR]
   rw [yF];simp
theorem VZ(x:ca)(p t:List ca): ∃k:Int,kN (p++x::t) gp x.Name=some (k,true)∧(k !=(p.length:Int))=G1 p x:=by
 obtain⟨k,h1,h2⟩:=O9 x t p 0
 refine⟨(k:Int),?_,?_⟩
 ·unfold kN dX
  rw [h1,bC,q7]
  have e1:max (k:Int) 0=(k:Int):=by omega
  have e2:decide ((0:Int)≤(k:Int))=true:=qn (by omega)
  rw [e1,e2]
 ·rw [←h2,yF];simp;omega
theorem SD: ∀(t p:List ca),gY (p++t) gp t p.length=some (JT p t)
 |[],p=>rfl
 |x::t,p=>by
  unfold gY
  obtain⟨k,h1,h2⟩:=VZ x p t
  rw [show gp x=some x.Name from rfl,bC,h1,bC]
  simp only [h2,bC,vm]
  unfold JT
  have ih:=SD t (p++[x])
  rw [iS,KZ,lw,List.length_singleton]at ih
  rw [ih]
  cases G1 p x<;>cases sC x.Name<;>simp
def Hw(c:ce):Prop:= ∀t∈c.Tables,t.Keys.length≤100000
theorem AU: ∀(l:List ca) (i:Nat),(∀t∈l,t.Keys.length≤100000)→ ∃j:Int,cy lF l i=some j∧decide (0≤j)= !l.all xk
 |[],i,_=>⟨-1,rfl,rfl⟩
 |x::l,i,h=>by
  unfold cy
  rw [show lF x=some (!xk x) by unfold lF;rw [E6 x (h x (iA ..)),bC];cases xk x<;>rfl,bC,w9]
  cases hx:xk x with
  |false=>exact⟨(i:Int),rfl,by simp⟩
  |true=>
   obtain⟨j,h1,h2⟩:=AU l (i+1) fun t ht=>h t (pS _ ht)
   exact⟨j,by simpa using h1,by simpa using h2⟩
def Qd(c:ce):Bool:=decide (c.Tables.length≤4)&&JS [] c.Tables
theorem BL{c:ce}(h:Hw c):rX c=some (if Qd c then 0 else 210):=by
 unfold rX Qd
 obtain⟨j,h1,h2⟩:=AU c.Tables 0 h
 have h3:nu c.Tables gp=some (JT [] c.Tables):=SD c.Tables []
 rw [Ld]
 by_cases hl:c.Tables.length≤4
 ·rw [oQ (show¬(4:Int)<(c.Tables.length:Int) by omega),qn hl]
  unfold gr dX
  rw [h1,h3]
  simp only [Bb,jW,bC,h2]
  cases c.Tables.all xk<;>cases JT [] c.Tables<;>rfl
 ·rw [qn (show(4:Int)<(c.Tables.length:Int) by omega),oQ hl];rfl
theorem Fz(c:ce)(nx:Int→Option Bool)(i:Nat)(hi:i<c.Tables.length)(hn:c.Tables.length≤4)(e:ca): ∀(n k:Nat),i<k+n→k≤i→oD c nx (i:Int) e n (k:Int)=if((c.Tables.take i).drop k).any (fun y=>y.Name==e.Name)then some false else nx ((i+1:Nat):Int)
 |0,k,h,hk=>by omega
 |n+1,k,h,hk=>by
  unfold oD
  by_cases hlt:k<i
  ·have hw:IntKind.i64.wrap ((k:Int)+1)=((k+1:Nat):Int):=by rw [yS];omega
   have hl2:k<(c.Tables.take i).length:=by simp;omega
   rw [bS (by rw [q8];omega),cQ,q6 (by omega),bC,hw,Fz c nx i hi hn e n (k+1) (by omega) (by omega),r0 hl2,xd,List.getElem_take]
   cases (c.Tables[k].Name==e.Name)<;>simp
  ·have hw:IntKind.i64.wrap ((i:Int)+1)=((i+1:Nat):Int):=by rw [yS];omega
   rw [bM (by rw [q8];omega),hw,vc (by simp;omega)]
   simp
theorem Lg(c:ce)(hn:c.Tables.length≤4)(hc:Hw c): ∀(n i:Nat),c.Tables.length<i+n→i≤c.Tables.length→mR c n (i:Int)=some (JS (c.Tables.take i) (c.Tables.drop i))
 |0,i,h,hi=>by omega
 |n+1,i,h,hi=>by
  unfold mR
  by_cases hlt:i<c.Tables.length
  ·have ih:=Lg c hn hc n (i+1) (by omega) (by omega)
   rw [bS (by rw [q8];omega),cQ,q6 hlt,bC,E5 _ (hc _ (List.getElem_mem hlt)),bC,show((0:Int))=((0:Nat):Int)from rfl,Fz c _ i hlt hn _ cZ 0 (by unfold cZ;omega) (iP _),ih,sM,r0 hlt,Mt hlt,show∀p x t,JS p (x::t)=((xk x&& !G1 p x)&&JS (p++[x]) t)from fun _ _ _=>rfl]
   show _=some ((xk c.Tables[i]&& !((c.Tables.take i).any fun y=>y.Name==c.Tables[i].Name))&&_)
   cases xk c.Tables[i]<;>cases ((c.Tables.take i).any fun y=>y.Name==c.Tables[i].Name)<;>simp
  ·rw [bM (by rw [q8];omega),vc (show c.Tables.length≤i by omega)]
   rfl
theorem DN{c:ce}(h:Hw c):uH c=some (Qd c):=by
 unfold uH Qd
 by_cases hl:c.Tables.length≤4
 ·rw [bM (by rw [q8];omega),show((0:Int))=((0:Nat):Int)from rfl,Lg c hl h cZ 0 (by unfold cZ;omega) (iP _),qn hl]
  rfl
 ·rw [bS (by rw [q8];omega),oQ hl];rfl
end Go.Proofs.YtnmjbolollcokaaGreatDoor

