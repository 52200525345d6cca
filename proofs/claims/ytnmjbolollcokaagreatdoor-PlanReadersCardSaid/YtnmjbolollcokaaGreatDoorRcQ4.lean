/- cR of this claim: L12, Q1, Q2. -/
import Derived.Test.YtnmjbolollcokaaGreatDoorRcQ3
import Derived.Test.YtnmjbolollcokaaGreatDoorRcQ1
import Derived.Laws.RangeAny
import Derived.Shelf.Strings.CaseAny
set_option linter.all false
namespace Go.Proofs.YtnmjbolollcokaaGreatDoor
open Go

variable{l:bK}
section
variable{d:bK}{sz sz' :Nat→Nat}{ks ks' :Nat→List Int}
theorem AG{j:Nat}{n:M}(F:Ag l sz ks j n):(n.A= -1∨0≤n.A∧n.A<(j:Int))∧(n.B= -1∨0≤n.B∧n.B<(j:Int)):=by
 by_cases c1:n.Op=1
 ·obtain⟨a,b,_⟩:=F.lf c1
  exact⟨.inl a,.inl b⟩
 by_cases c27:n.Op=2∨n.Op=7
 ·obtain⟨a,b,c,d,e⟩:=F.bi c27
  exact⟨.inr (by omega),.inr (by omega)⟩
 ·obtain⟨a,b,c,d⟩:=F.un c1 (fun h=>c27 (.inl h)) (fun h=>c27 (.inr h))
  exact⟨.inr (by omega),.inl c⟩
theorem OV{e:Nat}{x:Int}(h:0≤x)(h2:x≤10000)(h3:e≤10000):vt (e:Int) x=x+e:=by
 unfold vt
 rw [bm h,bP (by omega) (by omega)]
theorem Vr{e m:Nat}(H:Bo l sz ks)(H' :Bo d sz' ks')(hm:m≤l.Nodes.length)(hl:l.Nodes.length≤200)(he:e≤200)(hd:e+m≤d.Nodes.length)(hn: ∀j,j<m→ ∀n,cK l.Nodes (j:Int)=some n→cK d.Nodes ((e+j:Nat):Int)=some (sj (e:Int) n)): ∀j,j<m→sz' (e+j)=sz j∧ks' (e+j)=ks j:=by
 intro j
 induction j using Nat.strongRecOn with
 |ind j ih=>
  intro hj
  obtain⟨n,F⟩:=H j (by omega)
  obtain⟨n',F'⟩:=H' (e+j) (by omega)
  have hnn:n' =sj (e:Int) n:=by
   have h1:=hn j hj n F.node
   rw [F'.node]at h1
   injection h1
  subst hnn
  obtain⟨hA,hB⟩:=AG F
  constructor
  ·by_cases c1:n.Op=1
   ·rw [(F'.lf c1).2.2,(F.lf c1).2.2]
   by_cases c27:n.Op=2∨n.Op=7
   ·obtain⟨a,b,c,g,q⟩:=F.bi c27
    obtain⟨a',b',c',g',q'⟩:=F'.bi c27
    have ej:e+j-1=e+(j-1):=by omega
    rw [ej,(ih (j-1) (by omega) (by omega)).1,show e+(j-1)-sz (j-1)=e+(j-1-sz (j-1))from by omega,(ih (j-1-sz (j-1)) (by omega) (by omega)).1]at q'
    rw [q',q]
   ·obtain⟨a,b,c,g⟩:=F.un c1 (fun h=>c27 (.inl h)) (fun h=>c27 (.inr h))
    obtain⟨a',b',c',g'⟩:=F'.un c1 (fun h=>c27 (.inl h)) (fun h=>c27 (.inr h))
    rw [show e+j-1=e+(j-1)from by omega,(ih (j-1) (by omega) (by omega)).1]at g'
    rw [g',g]
  ·have key: ∀x:Int,(x= -1∨0≤x∧x<(j:Int))→(if vt (e:Int) x<0 then([]:List Int)else ks' (vt (e:Int) x).toNat)=if x<0 then []else ks x.toNat:=by
    intro x hx
    rcases hx with hx|hx
    ·rw [yw hx,bm (by decide),bm (by omega)]
    ·rw [OV (by omega) (by omega) (by omega),bg (by omega),bg (by omega),show(x+(e:Int)).toNat=e+x.toNat from by omega,(ih x.toNat (by omega) (by omega)).2]
   have h1:=F'.kinds
   have hA' :(sj (e:Int) n).A=vt (e:Int) n.A:=rfl
   have hB' :(sj (e:Int) n).B=vt (e:Int) n.B:=rfl
   rw [Hi,hA',hB',key n.A hA,key n.B hB,F.kinds]at h1
   injection h1 with h1
   injection h1 with h1 _
   exact h1.symm
end
structure QY(l:bK)(sz:Nat→Nat)(ks:Nat→List Int):Prop where
 pos:1≤l.Nodes.length
 le:l.Nodes.length≤60
 all:Bo l sz ks
 whole:sz (l.Nodes.length-1)=l.Nodes.length
 kinds:qk l=some (ks (l.Nodes.length-1),0)
theorem Ns(hS:nD l)(h:qu l=true): ∃sz ks,QY l sz ks:=by
 obtain⟨_,_,ob,j,r3,r4⟩:=GO hS
 obtain⟨hL,hj⟩:=r4 h
 have hle:=hL.le
 have hpos:=hL.pos
 obtain⟨N0,_⟩:=hL.inv.at (j:=l.Nodes.length-1) (by omega)
 refine⟨u6 ob.first,CZ ob.kinds,hpos,hle,fun j hj=>y8 hL.inv hle hj,?_,?_⟩
 ·have e1:=N0.size dj (iK (by omega))
  have e2:=hL.whole
  unfold jr at e2
  rw [show(l.Nodes.length:Int)-1=((l.Nodes.length-1:Nat):Int)from by omega,e1]at e2
  injection e2 with e2
  omega
 ·unfold qk
  rw [r3,h]
  simp only [be,nT,mz,iM]
  have hk:cK ob.kinds j=some (CZ ob.kinds (l.Nodes.length-1)):=by
   rw [hj,show(l.Nodes.length:Int)-1=((l.Nodes.length-1:Nat):Int)from by omega,cg]
   unfold CZ
   rw [pE (by rw [hL.inv.kl];omega)];rfl
  rw [hk]
  simp only [be]
  rw [qU _ (by have:=N0.len;omega)]
  rfl
theorem Hh{sz sz' :Nat→Nat}{ks ks' :Nat→List Int}(hS:nD l)(K:QY l sz ks)(H:Bo l sz' ks'):ks' (l.Nodes.length-1)=ks (l.Nodes.length-1)∧sz' (l.Nodes.length-1)=l.Nodes.length:=by
 have hle:=K.le
 have hpos:=K.pos
 have:=Vr (l:=l) (d:=l) (e:=0) (m:=l.Nodes.length) K.all H (dN _) (by omega) (by omega) (by omega) (fun j hj n hn=>by
  obtain⟨n',F⟩:=K.all j hj
  have e:n' =n:=by have:=F.node;rw [hn]at this;injection this with this;exact this.symm
  subst e
  obtain⟨hA,hB⟩:=AG F
  rw [o0,hn]
  have hz:=Gx (n:=n') (by omega) (by omega)
  rw [show((0:Nat):Int)=0 from rfl,hz]) (l.Nodes.length-1) (by omega)
 simp only [o0]at this
 exact⟨this.2,by rw [this.1];exact K.whole⟩

def me(n:Nat):Bool:=decide (97≤n)&&decide (n≤122)
def uP(n:Nat):Bool:=decide (48≤n)&&decide (n≤57)
def SY(n:Nat):Bool:=me n||uP n||n==95
def O9(b:UInt8):Bool:=SY b.toNat
theorem uB(n:Nat):tK (n:Int)=some (me n):=by
 unfold tK me
 congr 2<;>(rw [BJ];omega)
theorem yO(n:Nat):wC (n:Int)=some (uP n):=by
 unfold wC uP
 congr 2<;>(rw [BJ];omega)
theorem rm(n:Nat):sm (n:Int)=some (me n):=uB n
theorem Ch(n:Nat):AD (n:Int)=some (uP n):=yO n
theorem I1{n:Nat}(h:SY n=true):n<128:=by
 unfold SY me uP at h
 simp only [u3,jD,oV,tq]at h
 omega
theorem On(n:Nat):((n:Int) !=(95:Int))= !(n==95):=by
 rw [bne,wM]
 simp only [zB,beq_eq_false_iff_ne,ne_eq]
 omega
variable{i:Nat}
theorem Og{s:gV}(h:i<s.length)(hb:(s[i]).toNat<128):qR s i=((s[i]).toNat,1):=
 decode_ascii ⟨s.toArray⟩ i (show i<(ByteArray.mk s.toArray).size from h) hb
theorem LV{s:gV}(h:i<s.length)(hb: ¬(s[i]).toNat<128):128≤(qR s i).1:=
 (decode_high ⟨s.toArray⟩ i (show i<(ByteArray.mk s.toArray).size from h) (show 128≤(s[i]).toNat by omega)).1
theorem GJ(s:gV): ∀(f i:Nat),s.length<i+f→m6 (rf s f i)=some ((s.drop i).all O9)
 |0,i,h=>by
  rw [sT (by omega)];rfl
 |f+1,i,h=>by
  unfold rf
  by_cases hi:i<s.length
  ·rw [bm hi]
   unfold m6
   simp only [yO,uB,be,On]
   rw [pW hi,vc]
   by_cases hb:(s[i]).toNat<128
   ·rw [Og hi hb]
    simp only []
    have ih:=GJ s f (i+1) (by omega)
    have e:O9 s[i]=(me (s[i]).toNat||uP (s[i]).toNat||(s[i]).toNat==95):=rfl
    rw [e]
    cases h1:uP (s[i]).toNat<;>cases h2:me (s[i]).toNat<;>cases h3:((s[i]).toNat==95)<;>simp [ih]
   ·have hh:=LV hi hb
    have e:O9 s[i]=false:=by
     cases ho:O9 s[i]with
     |false=>rfl
     |true=>exact absurd (I1 ho) hb
    have e2:SY (qR s i).1=false:=by
     cases ho:SY (qR s i).1 with
     |false=>rfl
     |true=>have:=I1 ho;omega
    rw [e,Dq]
    unfold SY at e2
    simp only [Gb]at e2
    obtain⟨⟨h2,h1⟩,h3⟩:=e2
    simp [h1,h2,h3]
  ·rw [bg hi,sT (by omega)];rfl
def DB(s:gV):Bool:=TG.any fun w=>w==s
theorem H2(v:gV): ∀(l:List gV) (i:Nat),∃j:Int,d9 v l i=some j∧decide (0≤j)=l.any fun w=>w==v
 |[],i=>⟨-1,rfl,rfl⟩
 |e::l,i=>by
  unfold d9
  by_cases h:v=e
  ·subst h
   exact⟨(i:Int),by simp,by simp⟩
  ·obtain⟨j,h1,h2⟩:=H2 v l (i+1)
   exact⟨j,by simp [h,h1],by simp [h2,Ne.symm h]⟩
theorem xc(s:gV):uC s=some (DB s):=by
 unfold uC hY jh
 obtain⟨j,h1,h2⟩:=H2 s TG 0
 rw [h1]
 simp only [be,h2]
 rfl
theorem NH(s:gV): ∀l:List gV,qK s l=some (l.any fun w=>w==s)
 |[]=>rfl
 |e::l=>by
  unfold qK
  rw [NH s l,vf]
  cases (e==s)<;>rfl
theorem Bc(s:gV):ut s=some (DB s):=by
 unfold ut AE DZ
 rw [be,NH]
 rfl
def My(b:UInt8):UInt8:=UInt8.ofNat (if me b.toNat then b.toNat-32 else b.toNat)
theorem KV: ∀b:UInt8,My b=Lib.upperB b:=by
 intro b
 have key: ∀i:Fin 256,My (UInt8.ofNat i.val)=Lib.upperB (UInt8.ofNat i.val):=by decide+kernel
 have:=key ⟨b.toNat,b.toNat_lt⟩
 simpa using this
theorem yr(a b:List Int):wX (a++b)=wX a++wX b:=by simp [wX]
theorem wd(s:gV)(hs:s.length≤1000): ∀(n i:Nat) (out:List Int),s.length<i+n→out.length≤i→i≤s.length→mi s n out (i:Int)=some (wX out++(s.drop i).map My)
 |0,i,out,h,_,h2=>by omega
 |n+1,i,out,h,h1,h2=>by
  unfold mi
  by_cases hi:i<s.length
  ·rw [bm (by rw [oV];omega)]
   have e:yV s (i:Int)=some ((s[i]).toNat:Int):=by
    unfold yV
    rw [cg,pE hi];rfl
   have hw:IntKind.i64.wrap ((i:Int)+1)=((i+1:Nat):Int):=by rw [C0];omega
   rw [e,be,rm,be,pW hi,wL]
   have hlt:=(s[i]).toNat_lt
   cases hsm:me (s[i]).toNat with
   |true=>
    have h97:97≤(s[i]).toNat∧(s[i]).toNat≤122:=by simpa [me] using hsm
    have hc:IntKind.u8.wrap (IntKind.u8.wrap (((s[i]).toNat:Int)-97)+65)=(((s[i]).toNat-32:Nat):Int):=by
     rw [IntKind.wrap_u8,IntKind.wrap_u8];omega
    rw [bm rfl,hc]
    unfold oy
    rw [ca (by simp;omega),be,hw,wd s hs n (i+1) _ (by omega) (by simp;omega) (by omega),yr,n6]
    congr 2
    show wX [_]++_=_
    simp only [wX,wL,yg,zA,iv]
    congr 1
    simp [My,hsm]
   |false=>
    rw [bg (by simp)]
    unfold oy
    rw [ca (by simp;omega),be,hw,wd s hs n (i+1) _ (by omega) (by simp;omega) (by omega),yr,n6]
    congr 2
    show wX [_]++_=_
    simp only [wX,wL,yg,zA,iv]
    congr 1
    simp [My,hsm]
  ·rw [bg (by rw [oV];omega),sT (by omega)]
   simp
theorem Ci(s:gV)(hs:s.length≤1000):vE s=some (s.map My):=by
 unfold vE
 rw [show((0:Int))=((0:Nat):Int)from rfl,wd s hs dj 0 [] (by unfold dj;omega) (dN _) (gx _)]
 rfl
theorem Dn(s:gV)(hs:s.length≤1000)(ha: ∀b∈s,O9 b=true):iw s=some (s.map My):=by
 unfold iw
 rw [bm (by omega),Lib.toUpperD_ascii s (fun b hb=>I1 (ha b hb))]
 unfold Lib.toUpperA
 rw [show My=Lib.upperB from funext KV]
def NF:gV→Bool
 |[]=>false
 |b::_=>me b.toNat
def qi(s:gV):Bool:=(decide (1≤s.length)&&decide (s.length≤16)&&NF s)&&(!DB (s.map My)&&s.all O9)
theorem Eh{b:UInt8}{t:gV}:yV (b::t) (0:Int)=some (b.toNat:Int):=by unfold yV;rfl
theorem td(s:gV):px s=some (qi s):=by
 unfold px qi
 cases s with
 |nil=>rfl
 |cons b t=>
  by_cases hl:(b::t).length≤16
  ·rw [bm (by rw [show((b::t)==([]:gV))=false from rfl,u0,zB,BG];omega),Eh,be]
   have hb:=b.toNat_lt
   rw [show IntKind.i32.wrap (b.toNat:Int)=(b.toNat:Int) by rw [IntKind.wrap_i32];omega,uB,be,be]
   have e0:(decide (1≤(b::t).length)&&decide ((b::t).length≤16)&&NF (b::t))=me b.toNat:=by
    rw [nU (show 1≤(b::t).length by simp),nU hl];rfl
   rw [e0]
   cases hsm:me b.toNat with
   |false=>rfl
   |true=>
    have hr:=GJ (b::t) ((b::t).length+1) 0 (by omega)
    rw [qr]at hr
    have hT:iw (b::t)=some (Lib.toUpperD (b::t)):=by unfold iw;rw [bm (by omega)]
    simp only [nT,vg,iE]
    cases ha:(b::t).all O9 with
    |true=>
     rw [Dn (b::t) (by omega) (fun c hc=>mP.1 ha c hc),be,xc,be,be]
     unfold GK
     rw [hr,ha]
     cases DB ((b::t).map My)<;>rfl
    |false=>
     rw [hT,be,xc,be,be]
     unfold GK
     rw [hr,ha]
     cases DB (Lib.toUpperD (b::t))<;>simp
  ·rw [bg (by rw [show((b::t)==([]:gV))=false from rfl,u0,zB,BG,Classical.not_not];omega)]
   rw [my hl]
   simp
theorem zr(s:gV)(hs:s.length≤1000): ∀(n i:Nat),s.length<i+n→i≤s.length→nf s n (i:Int)=some ((s.drop i).all O9)
 |0,i,h,h2=>by omega
 |n+1,i,h,h2=>by
  unfold nf
  by_cases hi:i<s.length
  ·rw [bm (by rw [oV];omega)]
   have e:yV s (i:Int)=some ((s[i]).toNat:Int):=by
    unfold yV
    rw [cg,pE hi];rfl
   have hw:IntKind.i64.wrap ((i:Int)+1)=((i+1:Nat):Int):=by rw [C0];omega
   simp only [e,be,rm,Ch,On,hw]
   rw [zr s hs n (i+1) (by omega) (by omega),pW hi,vc]
   have e2:O9 s[i]=(me (s[i]).toNat||uP (s[i]).toNat||(s[i]).toNat==95):=rfl
   rw [e2]
   cases h1:uP (s[i]).toNat<;>cases h2:me (s[i]).toNat<;>cases h3:((s[i]).toNat==95)<;>simp
  ·rw [bg (by rw [oV];omega),sT (by omega)]
   rfl
theorem uV(s:gV):qL s=some (qi s):=by
 unfold qL qi
 cases s with
 |nil=>rfl
 |cons b t=>
  by_cases hl:(b::t).length≤16
  ·rw [bm (by rw [zB,Gb,BG,BG];simp at hl ⊢;omega),Eh,be,rm,be,be]
   have e0:(decide (1≤(b::t).length)&&decide ((b::t).length≤16)&&NF (b::t))=me b.toNat:=by
    rw [nU (show 1≤(b::t).length by simp),nU hl];rfl
   rw [e0]
   cases hsm:me b.toNat with
   |false=>rfl
   |true=>
    simp only [nT,vg,iE]
    rw [Ci _ (by omega),be,Bc,be,be,show((0:Int))=((0:Nat):Int)from rfl,zr _ (by omega) dj 0 (by unfold dj;omega) (gx _),qr]
    cases DB ((b::t).map My)<;>simp
  ·rw [bg (by rw [zB,Gb,BG,BG];omega)]
   rw [my hl]
   simp

def vR(k:Int):Bool:=k==1||k==2||k==3
theorem Bj(k:Int): ∃r,qT k=some r∧(r==([]:gV))= !vR k:=by
 have g0:cK RT ((0:Nat):Int)=some ⟨[98,111,111,108],1⟩:=rfl
 have g1:cK RT ((0+1:Nat):Int)=some ⟨[105,110,116],2⟩:=rfl
 have g2:cK RT ((0+1+1:Nat):Int)=some ⟨[116,101,120,116],3⟩:=rfl
 unfold qT
 by_cases h1:k=1
 ·subst h1;exact⟨_,by simp only [iB,g0,be];rfl,rfl⟩
 by_cases h2:k=2
 ·subst h2;exact⟨_,by simp only [iB,g0,g1,be];rfl,rfl⟩
 by_cases h3:k=3
 ·subst h3;exact⟨_,by simp only [iB,g0,g1,g2,be];rfl,rfl⟩
 have n1:((1:Int)==k)=false:=by simpa using Ne.symm h1
 have n2:((2:Int)==k)=false:=by simpa using Ne.symm h2
 have n3:((3:Int)==k)=false:=by simpa using Ne.symm h3
 refine⟨[],?_,?_⟩
 ·simp only [iB,g0,g1,g2,be,n1,n2,n3];rfl
 ·simp [vR,h1,h2,h3]
theorem C8(k:Int): ∃r,xD k=some r∧(r==([]:gV))= !vR k:=by
 unfold xD
 by_cases h1:k=1
 ·subst h1;exact⟨_,rfl,rfl⟩
 by_cases h2:k=2
 ·subst h2;exact⟨_,rfl,rfl⟩
 by_cases h3:k=3
 ·subst h3;exact⟨_,rfl,rfl⟩
 exact⟨[],by simp [h1,h2,h3],by simp [vR,h1,h2,h3]⟩
def Fq(p:List bn)(x:bn):Bool:=p.any fun y=>y.Name==x.Name
def LW:List bn→List bn→Bool
 |_,[]=>true
 |p,x::t=>(!Fq p x&&qi x.Name)&&LW (p++[x]) t
def Jt:List bn→List bn→Bool
 |_,[]=>true
 |p,x::t=>(qi x.Name&&vR x.Kind&& !Fq p x)&&Jt (p++[x]) t
theorem Ku: ∀(t p:List bn),Jt p t=(LW p t&&t.all fun x=>vR x.Kind)
 |[],_=>rfl
 |x::t,p=>by
  unfold Jt LW
  rw [Ku t (p++[x]),vc]
  cases Fq p x<;>cases qi x.Name<;>cases vR x.Kind<;>simp
theorem Nz(x:bn)(t:List bn): ∀(p:List bn) (i:Nat),∃k:Nat,cq (ef ep x.Name) (p++x::t) i=some ((i+k:Nat):Int)∧(k !=p.length)=Fq p x
 |[],i=>⟨0,by unfold cq;simp [ef,ep],rfl⟩
 |y::p,i=>by
  rw [zA]
  unfold cq
  rw [show ef ep x.Name y=some (y.Name==x.Name)from rfl,be]
  cases h:(y.Name==x.Name)with
  |true=>exact⟨0,rfl,by unfold Fq;rw [vf,h];rfl⟩
  |false=>
   obtain⟨k,h1,h2⟩:=Nz x t p (i+1)
   refine⟨k+1,by rw [bg (by simp),h1];congr 2;omega,?_⟩
   unfold Fq at h2 ⊢
   rw [vf,h,u0,←h2,gJ]
   rw [wM];simp
theorem TN(x:bn)(p t:List bn): ∃k:Int,il (p++x::t) ep x.Name=some (k,true)∧(k !=(p.length:Int))=Fq p x:=by
 obtain⟨k,h1,h2⟩:=Nz x t p 0
 refine⟨(k:Int),?_,?_⟩
 ·unfold il eV
  rw [h1,be,o0]
  have e1:max (k:Int) 0=(k:Int):=by omega
  have e2:decide ((0:Int)≤(k:Int))=true:=nU (by omega)
  rw [e1,e2]
 ·rw [←h2,wM];simp;omega
theorem QE: ∀(t p:List bn),fh (p++t) ep t p.length=some (LW p t)
 |[],p=>rfl
 |x::t,p=>by
  unfold fh
  obtain⟨k,h1,h2⟩:=TN x p t
  rw [show ep x=some x.Name from rfl,be,h1,be]
  simp only [h2,be,td]
  unfold LW
  have ih:=QE t (p++[x])
  rw [n6,JN,jA,List.length_singleton]at ih
  rw [ih]
  cases Fq p x<;>cases qi x.Name<;>simp
theorem Ff(l:List bn):kQ l ep=some (LW [] l):=QE l []
theorem yT(t:br): ∀(l:List bn) (ok:Bool),ga t l ok=eN t t.Keys 0 (ok&&l.all fun x=>vR x.Kind)
 |[],ok=>by unfold ga;simp
 |x::l,ok=>by
  unfold ga
  obtain⟨r,h1,h2⟩:=Bj x.Kind
  cases ok with
  |false=>
   rw [bg (by simp),be,yT t l];simp
  |true=>
   rw [bm rfl,h1,be,be,yT t l,h2,vc];simp
def KQ(n:Nat):Option Int→List Int→Bool
 |_,[]=>true
 |o,k::t=>(decide (0≤k)&&decide (k<(n:Int))&&(o.all fun j=>decide (j<k)))&&KQ n (some k) t
theorem KM(n:Nat)(o:Option Int)(k:Int)(t:List Int):KQ n o (k::t)=((decide (0≤k)&&decide (k<(n:Int))&&(o.all fun j=>decide (j<k)))&&KQ n (some k) t):=rfl
def D2(l:List Int):Nat→Option Int
 |0=>none
 |i+1=>l[i]?
theorem yE{l:List Int}(h:i<l.length):D2 l (i+1)=some l[i]:=pE h
theorem Hr{l:List Int}(h:i+1≤l.length)(hl:l.length≤100000):cK l (IntKind.i64.wrap (((i+1:Nat):Int)-1))=some l[i]:=by
 rw [show IntKind.i64.wrap (((i+1:Nat):Int)-1)=(i:Int) by rw [C0];omega,cg,pE (by omega)]
theorem Ka(t:br)(hl:t.Keys.length≤100000): ∀(n i:Nat) (ok:Bool),t.Keys.length-i=n→i≤t.Keys.length→eN t (t.Keys.drop i) i ok=some (if ok&&KQ t.Columns.length (D2 t.Keys i) (t.Keys.drop i)then 0 else 211)
 |0,i,ok,h,hi=>by
  rw [sT (by omega)]
  unfold eN KQ
  cases ok<;>rfl
 |n+1,i,ok,h,hi=>by
  have hlt:i<t.Keys.length:=by omega
  rw [pW hlt,KM]
  unfold eN
  have ih:=Ka t hl n (i+1)
  rw [yE hlt]at ih
  cases ok with
  |false=>
   simp only [Dq,mz,iM,be]
   rw [ih false (by omega) (by omega)];simp
  |true=>
   simp only [vb]
   by_cases h1:(0:Int)≤t.Keys[i]
   ·by_cases h2:t.Keys[i]<(t.Columns.length:Int)
    ·rw [bm (by rw [nU h1,nU h2];rfl),nU h1,nU h2]
     cases i with
     |zero=>
      rw [bg (by simp),be,be,ih true (by omega) (by omega)]
      simp [D2]
     |succ j=>
      rw [bm (by simp;omega),Hr (by omega) hl,be,be,be,ih _ (by omega) (by omega),yE (by omega)]
      simp [Option.all]
    ·rw [bg (by rw [my h2];simp),be,ih false (by omega) (by omega),my h2];simp
   ·rw [bg (by rw [my h1];simp),be,ih false (by omega) (by omega),my h1];simp
theorem GQ(t:br)(hl:t.Keys.length≤100000): ∀(n i:Nat),t.Keys.length<i+n→i≤t.Keys.length→ku t n (i:Int)=some (KQ t.Columns.length (D2 t.Keys i) (t.Keys.drop i))
 |0,i,h,hi=>by omega
 |n+1,i,h,hi=>by
  unfold ku
  by_cases hlt:i<t.Keys.length
  ·have hw:IntKind.i64.wrap ((i:Int)+1)=((i+1:Nat):Int):=by rw [C0];omega
   have ih:=GQ t hl n (i+1) (by omega) (by omega)
   rw [yE hlt]at ih
   rw [bm (by rw [oV];omega),cg,pE hlt,be,hw,ih,pW hlt,KM]
   by_cases h1:(0:Int)≤t.Keys[i]
   ·by_cases h2:t.Keys[i]<(t.Columns.length:Int)
    ·rw [bm (by rw [my (show¬t.Keys[i]<0 by omega),my (show¬(t.Columns.length:Int)≤t.Keys[i] by omega)];rfl),nU h1,nU h2]
     cases i with
     |zero=>
      rw [bg (by simp)]
      simp [D2]
     |succ j=>
      rw [bm (by rw [oV];omega),Hr (by omega) hl,yE (show j<t.Keys.length by omega)]
      simp only [be,Option.all,vb]
      by_cases h3:t.Keys[j]<t.Keys[j+1]
      ·rw [nU h3,my (show¬t.Keys[j+1]≤t.Keys[j] by omega)];simp
      ·rw [my h3,nU (show t.Keys[j+1]≤t.Keys[j] by omega)];simp
    ·rw [bg (by rw [nU (show(t.Columns.length:Int)≤t.Keys[i] by omega)];simp),my h2];simp
   ·rw [bg (by rw [nU (show t.Keys[i]<0 by omega)];simp),my h1];simp
  ·rw [bg (by rw [oV];omega),sT (by omega)];rfl
def vk(t:br):Bool:=(qi t.Name&&decide (1≤t.Columns.length)&&decide (t.Columns.length≤4))&&(Jt [] t.Columns&&KQ t.Columns.length none t.Keys)
theorem Dp(t:br)(hl:t.Keys.length≤100000):lr t=some (if vk t then 0 else 211):=by
 unfold lr vk
 rw [td,be,Ku]
 have key:=Ka t hl t.Keys.length 0
 rw [qr]at key
 have e1:decide ((1:Int)≤(t.Columns.length:Int))=decide (1≤t.Columns.length):=by rw [BJ];omega
 have e2:decide ((t.Columns.length:Int)≤(4:Int))=decide (t.Columns.length≤4):=by rw [BJ];omega
 rw [e1,e2]
 cases h:(qi t.Name&&decide (1≤t.Columns.length)&&decide (t.Columns.length≤4))with
 |false=>
  rw [bg (by simp),be,yT,key _ rfl (gx _)];simp
 |true=>
  rw [bm rfl,Ff,be,be,yT,key _ rfl (gx _)]
  simp [D2]
theorem DY(t:br)(nx:Int→Option Bool)(i:Nat)(hi:i<t.Columns.length)(hn:t.Columns.length≤4)(e:bn): ∀(n k:Nat),i<k+n→k≤i→kw t nx (i:Int) e n (k:Int)=if((t.Columns.take i).drop k).any (fun y=>y.Name==e.Name)then some false else nx ((i+1:Nat):Int)
 |0,k,h,hk=>by omega
 |n+1,k,h,hk=>by
  unfold kw
  by_cases hlt:k<i
  ·have hw:IntKind.i64.wrap ((k:Int)+1)=((k+1:Nat):Int):=by rw [C0];omega
   have hl2:k<(t.Columns.take i).length:=by simp;omega
   rw [bm (by rw [oV];omega),cg,pE (by omega),be,hw,DY t nx i hi hn e n (k+1) (by omega) (by omega),pW hl2,vf,List.getElem_take]
   cases (t.Columns[k].Name==e.Name)<;>simp
  ·have hw:IntKind.i64.wrap ((i:Int)+1)=((i+1:Nat):Int):=by rw [C0];omega
   rw [bg (by rw [oV];omega),hw,sT (by simp;omega)]
   simp
theorem JZ(t:br)(hn:t.Columns.length≤4)(hl:t.Keys.length≤100000): ∀(n i:Nat),t.Columns.length<i+n→i≤t.Columns.length→kx t n (i:Int)=some (Jt (t.Columns.take i) (t.Columns.drop i)&&KQ t.Columns.length none t.Keys)
 |0,i,h,hi=>by omega
 |n+1,i,h,hi=>by
  unfold kx
  by_cases hlt:i<t.Columns.length
  ·obtain⟨r,h1,h2⟩:=C8 t.Columns[i].Kind
   have ih:=JZ t hn hl n (i+1) (by omega) (by omega)
   rw [bm (by rw [oV];omega),cg,pE hlt,be,uV,be,h1,show((0:Int))=((0:Nat):Int)from rfl,DY t _ i hlt hn _ dj 0 (by unfold dj;omega) (gx _),ih,qr,pW hlt,KR hlt,show∀p x t,Jt p (x::t)=((qi x.Name&&vR x.Kind&& !Fq p x)&&Jt (p++[x]) t)from fun _ _ _=>rfl]
   simp only [be,h2]
   show _=some ((qi t.Columns[i].Name&&vR t.Columns[i].Kind&& !((t.Columns.take i).any fun y=>y.Name==t.Columns[i].Name))&&_&&_)
   cases qi t.Columns[i].Name<;>cases vR t.Columns[i].Kind<;>cases ((t.Columns.take i).any fun y=>y.Name==t.Columns[i].Name)<;>simp
  ·rw [bg (by rw [oV];omega),show((0:Int))=((0:Nat):Int)from rfl,GQ t hl dj 0 (by unfold dj;omega) (gx _),sT (show t.Columns.length≤i by omega),qr]
   rfl
theorem Do(t:br)(hl:t.Keys.length≤100000):pi t=some (vk t):=by
 unfold pi vk
 rw [uV,be]
 by_cases h1:1≤t.Columns.length
 ·by_cases h2:t.Columns.length≤4
  ·rw [my (show¬(t.Columns.length:Int)<1 by omega),my (show¬(4:Int)<(t.Columns.length:Int) by omega),nU h1,nU h2,show((0:Int))=((0:Nat):Int)from rfl,JZ t h2 hl dj 0 (by unfold dj;omega) (gx _),List.take_zero,qr]
   cases qi t.Name<;>simp
  ·rw [nU (show(4:Int)<(t.Columns.length:Int) by omega),my h2];simp
 ·rw [nU (show(t.Columns.length:Int)<1 by omega),my h1];simp
def Fp(p:List br)(x:br):Bool:=p.any fun y=>y.Name==x.Name
def Iu:List br→List br→Bool
 |_,[]=>true
 |p,x::t=>(!Fp p x&&qi x.Name)&&Iu (p++[x]) t
def Is:List br→List br→Bool
 |_,[]=>true
 |p,x::t=>(vk x&& !Fp p x)&&Is (p++[x]) t
theorem MH{t:br}(h:vk t=true):qi t.Name=true:=by
 unfold vk at h
 simp only [jD]at h
 exact h.1.1.1
theorem JU: ∀(t p:List br),Is p t=(t.all vk&&Iu p t)
 |[],_=>rfl
 |x::t,p=>by
  unfold Is Iu
  rw [JU t (p++[x]),vc]
  cases h:vk x with
  |false=>simp
  |true=>
   rw [MH h]
   cases Fp p x<;>simp
theorem Ny(x:br)(t:List br): ∀(p:List br) (i:Nat),∃k:Nat,bL (eH eQ x.Name) (p++x::t) i=some ((i+k:Nat):Int)∧(k !=p.length)=Fp p x
 |[],i=>⟨0,by unfold bL;simp [eH,eQ],rfl⟩
 |y::p,i=>by
  rw [zA]
  unfold bL
  rw [show eH eQ x.Name y=some (y.Name==x.Name)from rfl,be]
  cases h:(y.Name==x.Name)with
  |true=>exact⟨0,rfl,by unfold Fp;rw [vf,h];rfl⟩
  |false=>
   obtain⟨k,h1,h2⟩:=Ny x t p (i+1)
   refine⟨k+1,by rw [bg (by simp),h1];congr 2;omega,?_⟩
   unfold Fp at h2 ⊢
   rw [vf,h,u0,←h2,gJ]
   rw [wM];simp
theorem TM(x:br)(p t:List br): ∃k:Int,iU (p++x::t) eQ x.Name=some (k,true)∧(k !=(p.length:Int))=Fp p x:=by
 obtain⟨k,h1,h2⟩:=Ny x t p 0
 refine⟨(k:Int),?_,?_⟩
 ·unfold iU cX
  rw [h1,be,o0]
  have e1:max (k:Int) 0=(k:Int):=by omega
  have e2:decide ((0:Int)≤(k:Int))=true:=nU (by omega)
  rw [e1,e2]
 ·rw [←h2,wM];simp;omega
theorem QD: ∀(t p:List br),fK (p++t) eQ t p.length=some (Iu p t)
 |[],p=>rfl
 |x::t,p=>by
  unfold fK
  obtain⟨k,h1,h2⟩:=TM x p t
  rw [show eQ x=some x.Name from rfl,be,h1,be]
  simp only [h2,be,td]
  unfold Iu
  have ih:=QD t (p++[x])
  rw [n6,JN,jA,List.length_singleton]at ih
  rw [ih]
  cases Fp p x<;>cases qi x.Name<;>simp
def FW(c:bG):Prop:= ∀t∈c.Tables,t.Keys.length≤100000
theorem zf: ∀(l:List br) (i:Nat),(∀t∈l,t.Keys.length≤100000)→ ∃j:Int,bL jI l i=some j∧decide (0≤j)= !l.all vk
 |[],i,_=>⟨-1,rfl,rfl⟩
 |x::l,i,h=>by
  unfold bL
  rw [show jI x=some (!vk x) by unfold jI;rw [Dp x (h x (nm ..)),be];cases vk x<;>rfl,be,vc]
  cases hx:vk x with
  |false=>exact⟨(i:Int),rfl,by simp⟩
  |true=>
   obtain⟨j,h1,h2⟩:=zf l (i+1) fun t ht=>h t (nE _ ht)
   exact⟨j,by simpa using h1,by simpa using h2⟩
def Ol(c:bG):Bool:=decide (c.Tables.length≤4)&&Is [] c.Tables
theorem Ab{c:bG}(h:FW c):pT c=some (if Ol c then 0 else 210):=by
 unfold pT Ol
 obtain⟨j,h1,h2⟩:=zf c.Tables 0 h
 have h3:lq c.Tables eQ=some (Iu [] c.Tables):=QD c.Tables []
 rw [JU]
 by_cases hl:c.Tables.length≤4
 ·rw [my (show¬(4:Int)<(c.Tables.length:Int) by omega),nU hl]
  unfold eS cX
  rw [h1,h3]
  simp only [vg,iE,be,h2]
  cases c.Tables.all vk<;>cases Iu [] c.Tables<;>rfl
 ·rw [nU (show(4:Int)<(c.Tables.length:Int) by omega),my hl];rfl
theorem DX(c:bG)(nx:Int→Option Bool)(i:Nat)(hi:i<c.Tables.length)(hn:c.Tables.length≤4)(e:br): ∀(n k:Nat),i<k+n→k≤i→ov c nx (i:Int) e n (k:Int)=if((c.Tables.take i).drop k).any (fun y=>y.Name==e.Name)then some false else nx ((i+1:Nat):Int)
 |0,k,h,hk=>by omega
 |n+1,k,h,hk=>by
  unfold ov
  by_cases hlt:k<i
  ·have hw:IntKind.i64.wrap ((k:Int)+1)=((k+1:Nat):Int):=by rw [C0];omega
   have hl2:k<(c.Tables.take i).length:=by simp;omega
   rw [bm (by rw [oV];omega),cg,pE (by omega),be,hw,DX c nx i hi hn e n (k+1) (by omega) (by omega),pW hl2,vf,List.getElem_take]
   cases (c.Tables[k].Name==e.Name)<;>simp
  ·have hw:IntKind.i64.wrap ((i:Int)+1)=((i+1:Nat):Int):=by rw [C0];omega
   rw [bg (by rw [oV];omega),hw,sT (by simp;omega)]
   simp
theorem JX(c:bG)(hn:c.Tables.length≤4)(hc:FW c): ∀(n i:Nat),c.Tables.length<i+n→i≤c.Tables.length→ow c n (i:Int)=some (Is (c.Tables.take i) (c.Tables.drop i))
 |0,i,h,hi=>by omega
 |n+1,i,h,hi=>by
  unfold ow
  by_cases hlt:i<c.Tables.length
  ·have ih:=JX c hn hc n (i+1) (by omega) (by omega)
   rw [bm (by rw [oV];omega),cg,pE hlt,be,Do _ (hc _ (List.getElem_mem hlt)),be,show((0:Int))=((0:Nat):Int)from rfl,DX c _ i hlt hn _ dj 0 (by unfold dj;omega) (gx _),ih,qr,pW hlt,KR hlt,show∀p x t,Is p (x::t)=((vk x&& !Fp p x)&&Is (p++[x]) t)from fun _ _ _=>rfl]
   show _=some ((vk c.Tables[i]&& !((c.Tables.take i).any fun y=>y.Name==c.Tables[i].Name))&&_)
   cases vk c.Tables[i]<;>cases ((c.Tables.take i).any fun y=>y.Name==c.Tables[i].Name)<;>simp
  ·rw [bg (by rw [oV];omega),sT (show c.Tables.length≤i by omega)]
   rfl
theorem Cf{c:bG}(h:FW c):vB c=some (Ol c):=by
 unfold vB Ol
 by_cases hl:c.Tables.length≤4
 ·rw [bg (by rw [oV];omega),show((0:Int))=((0:Nat):Int)from rfl,JX c hl h dj 0 (by unfold dj;omega) (gx _),nU hl]
  rfl
 ·rw [bm (by rw [oV];omega),my hl];rfl
end Go.Proofs.YtnmjbolollcokaaGreatDoor

