/- cW of this claim: M1, M2, M3, M4, M5, M6, M7, M8, M9. -/
import Derived.Test.YtbmmihfagmchaaaGreatRcQ1
set_option linter.all false
namespace Go.Proofs.YtbmmihfagmchaaaGreat
open Go

def zV:bN:=⟨0,0,0,[]⟩
def bV(b:Bool):bN:=⟨1,if b then 1 else 0,0,[]⟩
def iV(n:Int):bN:=⟨2,n,0,[]⟩
def sV(s:Jc):bN:=⟨3,0,0,s⟩
def r64(n:Int):Prop:= -9223372036854775808<=n/\n<=9223372036854775807
inductive Pl:bN->Prop
 |z:Pl zV
 |b (b:Bool):Pl (bV b)
 |i (n:Int) (h:r64 n):Pl (iV n)
 |s (s:Jc) (h:s.length<=40):Pl (sV s)
inductive Tu:bN->Prop
 |z:Tu zV
 |b (b:Bool):Tu (bV b)
def tn(v:bN):Int:=if v.Kind=0 then 1 else 2*v.N
def tv(n:Int):bN:=if n=0 then bV false else if n=1 then zV else bV true
def SU(a b:bN):bN:=tv (min (tn a) (tn b))


variable{t:Tr}
def qF(hw:t.wf): ∀s {n:aj},n∈t.flat s->n.Tag=2->0<=n.Col/\n.Col<16:=by
 induction t with
 |lf m=>
  intro s n hn D
  simp only [Tr.flat,jY]at hn
  subst hn
  exact KO hw.2.1 D
 |un m a ih=>
  intro s n hn D
  simp only [Tr.flat,p9,jY]at hn
  rcases hn with hn|rfl
  ·exact ih hw.2 s hn D
  ·exact absurd (PH hw.1.1 D) (by decide)
 |bi m a b iha ihb=>
  intro s n hn D
  simp only [Tr.flat,p9,jY]at hn
  rcases hn with(hn|hn)|rfl
  ·exact iha hw.2.1 s hn D
  ·exact ihb hw.2.2 _ hn D
  ·exact absurd (PH hw.1.1 D) (by decide)

variable{α:Type}
def yh(l:List α)(m:Nat)(hm:m<=100000):((dk l 0 (min (l.length:Int) (m:Int))).bind fun y=>(jT ([]:List α) y).bind fun x=>some x)=some (l.take m):=by
 rw [ia (i:=0) 0 (min l.length m) rfl (by omega) (mJ _) (Nat.min_le_left _ _)]
 simp only [bo,t6]
 rw [cL (by simp;omega)]
 simp only [bo,je]
 congr 1
 rcases Nat.le_total l.length m with h|h
 ·rw [vh h,zr,nM h]
 ·rw [Nat.min_eq_right h]
def M0(s:Jc):Jc:=s.take 41
def IK(n:aj):aj:={n with Value:={n.Value with S:=M0 n.Value.S}}
def H9(s:Jc):dk s 0 (min (s.length:Int) (41:Int))=some (M0 s):=by
 rw [ia (i:=0) 0 (min s.length 41) rfl (by omega) (mJ _) (Nat.min_le_left _ _),t6]
 congr 1
 unfold M0
 rcases Nat.le_total s.length 41 with h|h
 ·rw [vh h,zr,nM h]
 ·rw [Nat.min_eq_right h]
def zg(f:α->α)(xs:List α)(i:Nat)(h:i<xs.length):((xs.take i).map f++xs.drop i).set i (f xs[i])=(xs.take (i+1)).map f++xs.drop (i+1):=by
 rw [List.set_append_right _ _ (by simp;omega)]
 have e:i-((xs.take i).map f).length=0:=by simp;omega
 rw [e,xB h,List.set_cons_zero,HW h,yX]
 simp
def zk(f:α->α)(xs:List α)(i:Nat)(h:i<xs.length):cU ((xs.take i).map f++xs.drop i) (i:Int)=some xs[i]:=by
 rw [cI,qC (by simp;omega)]
 have e:i-((xs.take i).map f).length=0:=by simp;omega
 rw [e,ue]
 simp [h]
def vV(ns:List aj)(m:Nat):List aj:=(ns.take m).map IK
def vU(ns:List aj)(m:Nat):(vV ns m).length<=m:=by simp [vV];omega

def Dh(e:ai)(h:e.Nodes.length<=50000):mE e=some (fd e.Nodes&& !(e.Nodes.any GN)):=by
 unfold mE
 rw [lw e (by omega)]
 cases fd e.Nodes with
 |false=>rfl
 |true=>
  simp only [gu,bo]
  rw [bE (by decide)]
  have key: ∀(l:List aj),dI l pP=some (l.any GN):=by
   intro l
   unfold dI fO
   have J: ∀(l:List aj) (i:Nat),∃z:Int,cR pP l i=some z/\(0<=z↔l.any GN=true):=by
    intro l
    induction l with
    |nil=>intro i;exact⟨-1,rfl,by simp⟩
    |cons n l ih=>
     intro i
     unfold cR
     have e1:pP n=some (GN n):=rfl
     rw [e1]
     simp only [bo]
     cases V:GN n with
     |true=>exact⟨(i:Int),by simp,by simp [V]⟩
     |false=>
      obtain⟨z,Z,h4⟩:=ih (i+1)
      exact⟨z,by simpa using Z,by simpa [V] using h4⟩
   obtain⟨z,Z,h4⟩:=J l 0
   rw [Z]
   simp only [bo]
   congr 1
   rw [zn,<-h4];simp
  rw [key];rfl

def sh(s:Nat)(x:Int):Int:=if 0<=x then x+(s:Int)else x
def wJ(s:Nat)(n:aj):aj:=dR n (sh s n.L) (sh s n.R)
def bnd(n:aj):Prop:=n.L<=1000000/\n.R<=1000000
def Kc(t:Tr): ∀s,s+t.size<=1000000-> ∀n∈t.flat s,bnd n:=by
 induction t with
 |lf m=>intro s _ n hn;simp only [Tr.flat,jY]at hn;subst hn;exact⟨by simp [dR],by simp [dR]⟩
 |un m a ih=>
  intro s hs n hn
  simp only [Tr.size]at hs
  simp only [Tr.flat,p9,jY]at hn
  rcases hn with hn|rfl
  ·exact ih s (by omega) n hn
  ·constructor<;>simp only [dR]<;>omega
 |bi m a b iha ihb=>
  intro s hs n hn
  simp only [Tr.size]at hs
  simp only [Tr.flat,p9,jY]at hn
  rcases hn with(hn|hn)|rfl
  ·exact iha s (by omega) n hn
  ·exact ihb _ (by omega) n hn
  ·constructor<;>simp only [dR]<;>omega
variable{k:Nat}
def DY(k:Nat)(n:aj)(l r:Int):wJ k (dR n l r)=dR n (sh k l) (sh k r):=rfl
def FO{x:Int}(h:0<=x):sh k x=x+(k:Int):=bE h
def Ol(k:Nat):sh k (-1)= -1:=rfl
def Me(t:Tr)(k:Nat): ∀s,(t.flat s).map (wJ k)=t.flat (s+k):=by
 induction t with
 |lf m=>intro s;rfl
 |un m a ih=>
  intro s
  have:=a.size_pos
  simp only [Tr.flat,yX,ih,py,vH,DY,Ol]
  rw [FO (by omega),show((s+a.size:Nat):Int)-1+(k:Int)=((s+k+a.size:Nat):Int)-1 from by omega]
 |bi m a b iha ihb=>
  intro s
  have:=a.size_pos
  have:=b.size_pos
  simp only [Tr.flat,yX,iha,ihb,py,vH,DY]
  rw [FO (by omega),FO (by omega),show s+a.size+k=s+k+a.size from by omega,show((s+a.size:Nat):Int)-1+(k:Int)=((s+k+a.size:Nat):Int)-1 from by omega,show((s+a.size+b.size:Nat):Int)-1+(k:Int)=((s+k+a.size+b.size:Nat):Int)-1 from by omega]
def Hl(out:List aj)(ho:out.length<=1000000): ∀(ns out1:List aj),(∀n∈ns,bnd n)->out1.length+ns.length<=1000000->iv out ns out1=some (out1++ns.map (wJ out.length))
 |[],out1,_,_=>by simp [iv]
 |n::ns,out1,V,hl=>by
  simp only [jv]at hl
  obtain⟨Y,J⟩:=V n (mp ..)
  have ih:=Hl out ho ns (out1++[wJ out.length n]) (fun m hm=>V m (nu _ hm)) (by simp;omega)
  have e9:out1++(n::ns).map (wJ out.length)=out1++[wJ out.length n]++ns.map (wJ out.length):=by simp
  rw [e9]
  unfold iv
  have hk2: ∀m,m=wJ out.length n->om (iv out ns) out1 m=some (out1++[wJ out.length n]++ns.map (wJ out.length)):=by
   intro m hm
   unfold om
   rw [cL (by simp;omega),hm]
   exact ih
  by_cases hL:0<=n.L
  ·rw [bE (by simpa using hL)]
   unfold oo
   rw [bH (n:=n.L+(out.length:Int)) (by omega) (by omega)]
   by_cases hR:0<=n.R
   ·rw [bE (by simpa using hR)]
    dsimp only
    rw [bH (n:=n.R+(out.length:Int)) (by omega) (by omega)]
    exact hk2 _ (by simp only [wJ,dR,sh,bE hL,bE hR])
   ·rw [bn (by simpa using hR)]
    exact hk2 _ (by simp only [wJ,dR,sh,bE hL,bn hR])
  ·rw [bn (by simpa using hL)]
   unfold oo
   by_cases hR:0<=n.R
   ·rw [bE (by simpa using hR)]
    rw [bH (n:=n.R+(out.length:Int)) (by omega) (by omega)]
    exact hk2 _ (by simp only [wJ,dR,sh,bn hL,bE hR])
   ·rw [bn (by simpa using hR)]
    exact hk2 _ (by simp only [wJ,dR,sh,bn hL,bn hR])
def xY(out:List aj)(t:Tr)(h:out.length+t.size<=1000000):va out ⟨t.flat 0⟩=some (out++t.flat out.length):=by
 unfold va
 rw [Hl out (by omega) _ _ (Kc t 0 (by omega)) (by rw [t.flat_len];exact h),Me]
 simp
def LZ(n:aj):i9 n []=some ⟨(Tr.lf n).flat 0⟩:=by
 unfold i9 gN
 rw [show cU [(-1:Int),-1] 0=some (-1)from rfl,show cU [(-1:Int),-1] 1=some (-1)from rfl]
 simp only [bo]
 rw [cL (by simp)]
 rfl
def LY(n:aj)(a:Tr)(h:a.size<=100000):i9 n [⟨a.flat 0⟩]=some ⟨(Tr.un n a).flat 0⟩:=by
 unfold i9 gN
 rw [xY [] a (by simp;omega)]
 simp only [bo,je,pT]
 rw [show cU [(-1:Int),-1] ((0:Nat):Int)=some (-1)from rfl,a.flat_len,bH (by omega) (by omega)]
 simp only [bo]
 unfold gN
 rw [show([(-1:Int),-1].set ((0:Nat):Int).toNat ((a.size:Int)-1))=[(a.size:Int)-1,-1]from rfl]
 rw [show cU [(a.size:Int)-1,-1] 0=some ((a.size:Int)-1)from rfl,show cU [(a.size:Int)-1,-1] 1=some (-1)from rfl]
 simp only [bo]
 rw [cL (by simp [a.flat_len];omega)]
 simp [Tr.flat,dR]
def Hp(n:aj)(a b:Tr)(h:a.size+b.size<=100000):i9 n [⟨a.flat 0⟩,⟨b.flat 0⟩]=some ⟨(Tr.bi n a b).flat 0⟩:=by
 unfold i9 gN
 rw [xY [] a (by simp;omega)]
 simp only [bo,je,pT]
 rw [show cU [(-1:Int),-1] ((0:Nat):Int)=some (-1)from rfl,a.flat_len,bH (by omega) (by omega)]
 simp only [bo]
 unfold gN
 rw [xY (a.flat 0) b (by rw [a.flat_len];omega)]
 rw [show([(-1:Int),-1].set ((0:Nat):Int).toNat ((a.size:Int)-1))=[(a.size:Int)-1,-1]from rfl]
 simp only [bo]
 rw [show cU [(a.size:Int)-1,-1] ((0+1:Nat):Int)=some (-1)from rfl]
 simp only [bo]
 rw [jO,a.flat_len,b.flat_len,bH (by omega) (by omega)]
 unfold gN
 rw [show([(a.size:Int)-1,-1].set ((0+1:Nat):Int).toNat (((a.size+b.size:Nat):Int)-1))=[(a.size:Int)-1,((a.size+b.size:Nat):Int)-1]from rfl]
 rw [show cU [(a.size:Int)-1,((a.size+b.size:Nat):Int)-1] 0=some ((a.size:Int)-1)from rfl,show cU [(a.size:Int)-1,((a.size+b.size:Nat):Int)-1] 1=some (((a.size+b.size:Nat):Int)-1)from rfl]
 simp only [bo]
 rw [cL (by simp [a.flat_len,b.flat_len];omega)]
 simp [Tr.flat,dR]
def cV(t:Tr):ai:=⟨t.flat 0⟩
def pt(lt:List Tr):Tr->Tr
 | .lf n=>if n.Tag=2 then(lt[n.Col.toNat]?).getD default else .lf n
 | .un n a=> .un n (pt lt a)
 | .bi n a b=> .bi n (pt lt a) (pt lt b)
def CU(stack l:List ai)(h:stack.length+l.length<=100000):jL (stack++l) (l.length:Int)=some (l,stack):=by
 unfold jL ce
 have e:IntKind.i64.wrap (((stack++l).length:Int)-(l.length:Int))=(stack.length:Int):=by
  rw [jO,bH (by omega) (by omega)];omega
 rw [e,ia stack.length (stack++l).length rfl rfl (by simp) (dr _)]
 simp only [bo,zr,DD (dr _),List.drop_length,je]
 rw [cL (by simp;omega)]
 simp only [bo,je]
 rw [ia (i:=0) 0 stack.length rfl rfl (mJ _) (by simp)]
 simp
def tu(l:List aj)(h:l.length<=1000000):aX l=some l:=by
 unfold aX
 rw [cL (by simp;omega)]
 simp
def Nu(lt:List Tr)(n:aj)(a:Tr):pt lt (.un n a)= .un n (pt lt a):=rfl
def Nv(lt:List Tr)(n:aj)(a b:Tr):pt lt (.bi n a b)= .bi n (pt lt a) (pt lt b):=rfl
def F5(lt:List Tr)(hlt: ∀t∈lt,t.size<=1000)(t:Tr):t.wf->rL lt.length t-> ∀(s:Nat) (rest:List aj) (stack:List ai),stack.length+t.size<=50000->(pt lt t).size<=50000->
  d7 (ig (lt.map cV)) (t.flat s++rest) 0 stack=d7 (ig (lt.map cV)) rest 0 (stack++[cV (pt lt t)]):=by
 induction t with
 |lf n=>
  intro⟨Y,J,Z,h4⟩ hc s rest stack hl hp
  simp only [Tr.flat,Tr.size,xA,je]at hl ⊢
  conv=>lhs;rw [d7]
  have e1:(dR n (-1) (-1)).Tag=n.Tag:=rfl
  rw [e1,lu Y]
  have h0:=CU stack [] (by simp;omega)
  simp only [rR,pT]at h0
  simp only [bo]
  rw [h0]
  simp only [bo]
  have hv:ig (lt.map cV) (dR n (-1) (-1)) []=some (cV (pt lt (.lf n)),0):=by
   unfold ig pt
   simp only [e1]
   rcases RI Y with D|D
   ·rw [bn (by simp [D]),bn (by simp [D]),LZ];rfl
   ·rw [bE (by simp [D]),bE D]
    have V:=KO J D
    have hlt2:n.Col.toNat<lt.length:=by have:=hc D;omega
    have e2:(dR n (-1) (-1)).Col=n.Col:=rfl
    rw [e2,kg n.Col.toNat (by omega),yw,rg hlt2]
    simp only [yr,bo,BK]
    rw [tu _ (by have:=hlt _ (Bk hlt2);simp only [cV,Tr.flat_len];omega)]
    rfl
  rw [hv]
  simp only [bo]
  rw [bn (by simp),cL (by simp;omega)]
  rfl
 |un n a ih=>
  intro⟨⟨Y,J,Z,h4⟩,ha⟩ hc s rest stack hl hp
  rw [Nu]at hp ⊢
  simp only [Tr.flat,Tr.size,jC]at hl hp ⊢
  rw [ih ha hc s _ stack (by omega) (by omega)]
  simp only [xA,je]
  conv=>lhs;rw [d7]
  have e1:(dR n (((s+a.size:Nat):Int)-1) (-1)).Tag=n.Tag:=rfl
  rw [e1,lu Y]
  have h0:=CU stack [cV (pt lt a)] (by simp;omega)
  simp only [bo]
  have e0:(([cV (pt lt a)]:List ai).length:Int)=((1:Nat):Int):=rfl
  rw [<-e0,h0]
  simp only [bo]
  have hv:ig (lt.map cV) (dR n (((s+a.size:Nat):Int)-1) (-1)) [cV (pt lt a)]=some (cV (.un n (pt lt a)),0):=by
   unfold ig
   rw [bn (by rw [e1];intro h;have:=PH Y (by simpa using h);omega)]
   unfold cV
   rw [LY _ _ (by omega)]
   rfl
  rw [hv]
  simp only [bo]
  rw [bn (by simp),cL (by simp;omega)]
  rfl
 |bi n a b iha ihb=>
  intro⟨⟨Y,J,Z,h4⟩,ha,V⟩ ⟨hca,hcb⟩ s rest stack hl hp
  rw [Nv]at hp ⊢
  simp only [Tr.flat,Tr.size,jC]at hl hp ⊢
  have hap:=a.size_pos
  rw [iha ha hca s _ stack (by omega) (by omega),ihb V hcb (s+a.size) _ (stack++[cV (pt lt a)]) (by simp;omega) (by omega)]
  simp only [xA,je]
  conv=>lhs;rw [d7]
  have e1:(dR n (((s+a.size:Nat):Int)-1) (((s+a.size+b.size:Nat):Int)-1)).Tag=n.Tag:=rfl
  rw [e1,lu Y]
  have h0:=CU stack [cV (pt lt a),cV (pt lt b)] (by simp;omega)
  simp only [bo]
  have e0:(([cV (pt lt a),cV (pt lt b)]:List ai).length:Int)=((2:Nat):Int):=rfl
  have e9:stack++[cV (pt lt a)]++[cV (pt lt b)]=stack++[cV (pt lt a),cV (pt lt b)]:=by simp
  rw [<-e0,e9,h0]
  simp only [bo]
  have hv:ig (lt.map cV) (dR n (((s+a.size:Nat):Int)-1) (((s+a.size+b.size:Nat):Int)-1)) [cV (pt lt a),cV (pt lt b)]=some (cV (.bi n (pt lt a) (pt lt b)),0):=by
   unfold ig
   rw [bn (by rw [e1];intro h;have:=PH Y (by simpa using h);omega)]
   unfold cV
   rw [Hp _ _ _ (by omega)]
   rfl
  rw [hv]
  simp only [bo]
  rw [bn (by simp),cL (by simp;omega)]
  rfl
def wt(lt:List Tr)(n:aj):Nat:=if n.Tag=2 then((lt[n.Col.toNat]?).getD default).size else 1
def FC(lt:List Tr)(ns:List aj):Nat:=(ns.map (wt lt)).sum
def zB(lt:List Tr)(a b:List aj):FC lt (a++b)=FC lt a+FC lt b:=by simp [FC]
def Jn(lt:List Tr)(t:Tr):t.wf-> ∀s,FC lt (t.flat s)=(pt lt t).size:=by
 induction t with
 |lf n=>
  intro _ s
  have e1:wt lt (dR n (-1) (-1))=wt lt n:=rfl
  have e2:FC lt ((Tr.lf n).flat s)=wt lt n:=by
   simp only [Tr.flat,FC,py,vH,List.sum_cons,List.sum_nil,e1,tZ]
  rw [e2]
  unfold wt pt
  by_cases h:n.Tag=2
  ·rw [bE h,bE h]
  ·rw [bn h,bn h];rfl
 |un n a ih=>
  intro⟨⟨Y,_⟩,ha⟩ s
  have J: ¬n.Tag=2:=fun h=>by have:=PH Y h;omega
  have e1:wt lt (dR n (((s+a.size:Nat):Int)-1) (-1))=1:=bn J
  simp only [Tr.flat,zB,ih ha,Nu,Tr.size]
  simp only [FC,py,vH,List.sum_cons,List.sum_nil,e1,tZ]
 |bi n a b iha ihb=>
  intro⟨⟨Y,_⟩,ha,V⟩ s
  have J: ¬n.Tag=2:=fun h=>by have:=PH Y h;omega
  have e1:wt lt (dR n (((s+a.size:Nat):Int)-1) (((s+a.size+b.size:Nat):Int)-1))=1:=bn J
  simp only [Tr.flat,zB,iha ha,ihb V,Nv,Tr.size]
  simp only [FC,py,vH,List.sum_cons,List.sum_nil,e1,tZ]
def ym(e:ai)(lt:List Tr)(hlt: ∀t∈lt,t.size<=1000): ∀(ns:List aj) (n:Nat),(∀m∈ns,m.Tag=2->0<=m.Col/\m.Col<(lt.length:Int))->n+2000*ns.length<=100000000->
  kH e (lt.map cV) ns (n:Int)=if 1000<n+FC lt ns then some (⟨[]⟩,3)else(jl e (ig (lt.map cV))).bind fun r=>some (r.1,r.2)
 |[],n,_,_=>by
  unfold kH
  by_cases h:1000<n
  ·rw [bE (by simp;omega),bE (by simp [FC];omega)]
  ·rw [bn (by simp;omega),bn (by simp [FC];omega)]
 |m::ns,n,hc,hl=>by
  simp only [jv]at hl
  unfold kH
  have hc' : ∀m∈ns,m.Tag=2->0<=m.Col/\m.Col<(lt.length:Int):=fun q hq=>hc q (nu _ hq)
  have ew:FC lt (m::ns)=wt lt m+FC lt ns:=by simp [FC]
  rw [ew]
  by_cases D:m.Tag=2
  ·obtain⟨h0,Y⟩:=hc m (mp ..) D
   have hlt2:m.Col.toNat<lt.length:=by omega
   have hs:=hlt _ (Bk hlt2)
   have e2:wt lt m=lt[m.Col.toNat].size:=by unfold wt;rw [bE D,rg hlt2];rfl
   rw [bE (by simp [D]),kg m.Col.toNat (by omega),yw,rg hlt2]
   simp only [yr,bo,cV,Tr.flat_len]
   have hpos:=lt[m.Col.toNat].size_pos
   rw [bH (n:=(n:Int)+1) (by omega) (by omega),bH (n:=(lt[m.Col.toNat].size:Int)-1) (by omega) (by omega),bH (by omega) (by omega)]
   rw [show(n:Int)+1+((lt[m.Col.toNat].size:Int)-1)=((n+lt[m.Col.toNat].size:Nat):Int)from by omega]
   rw [ym e lt hlt ns _ hc' (by omega),e2,Nat.add_assoc]
  ·have e2:wt lt m=1:=bn D
   rw [bn (by simp [D]),bH (n:=(n:Int)+1) (by omega) (by omega),show(n:Int)+1=((n+1:Nat):Int)from by omega]
   rw [ym e lt hlt ns _ hc' (by omega),e2,Nat.add_assoc]
def Cr(e:ai)(l:List ai)(x:ai): ∀cs:List Int,pQ e l cs x=if cs.all (fun c=>decide (c<(l.length:Int)))then kH e l e.Nodes 0 else some (⟨[]⟩,2)
 |[]=>rfl
 |c::cs=>by
  unfold pQ
  rw [Cr e l x cs]
  by_cases h:(l.length:Int)<=c
  ·rw [bE (by simpa using h),bn (by simp;omega)]
  ·rw [bn (by simpa using h)]
   have:c<(l.length:Int):=by omega
   simp [this]
def wY: ∀(l:List ai) (n:Nat),(∀e∈l,e.Nodes.length<=100000)->n+100000*l.length<=10000000000->lv l (n:Int)=some (if l.all (fun e=>fd e.Nodes)then(((n+(l.map fun e=>e.Nodes.length).sum:Nat):Int),0)else(0,200))
 |[],n,_,_=>by simp [lv]
 |e::l,n,V,hl=>by
  simp only [jv]at hl
  have he:=V e (mp ..)
  unfold lv
  rw [lw e he]
  simp only [bo]
  cases hr:fd e.Nodes with
  |false=>simp [hr]
  |true=>
   simp only [gu]
   rw [bn (by decide),bH (by omega) (by omega),show(n:Int)+(e.Nodes.length:Int)=((n+e.Nodes.length:Nat):Int)from by omega]
   rw [wY l _ (fun q hq=>V q (nu _ hq)) (by omega)]
   simp [hr,Nat.add_assoc]
def pF(hw:t.wf)(hs:t.size<=1000):fd (t.flat 0)=true:=by unfold fd;rw [ny hw hs];rfl
def EY(e:ai)(he:e.Nodes.length<=10000)(lt:List Tr)(hln:lt.length<=1000)(hlt: ∀t∈lt,t.wf/\t.size<=1000): ∃p no,xh e (lt.map cV)=some (p,no)/\
  (no=0-> ∃t,iN e.Nodes=some t/\rL lt.length t/\(pt lt t).size<=1000/\p=cV (pt lt t)):=by
 unfold xh
 rw [cL (by simp;omega)]
 simp only [bo]
 unfold o4
 have hn:=wY ([e]++lt.map cV) 0 (by
  intro q hq
  rcases p9.1 hq with hq|hq
  ·simp only [jY]at hq;subst hq;omega
  ·obtain⟨t,D,rfl⟩:=rQ.1 hq
   have:=(hlt t D).2
   simp only [cV,Tr.flat_len];omega) (by simp;omega)
 rw [show((0:Nat):Int)=0 from rfl]at hn
 rw [hn]
 simp only [bo]
 have hall:([e]++lt.map cV).all (fun e=>fd e.Nodes)=fd e.Nodes:=by
  rw [List.all_append]
  have:(lt.map cV).all (fun e=>fd e.Nodes)=true:=by
   rw [jV]
   intro q hq
   obtain⟨t,D,rfl⟩:=rQ.1 hq
   exact pF (hlt t D).1 (hlt t D).2
  rw [this];simp
 rw [hall]
 cases hr:fd e.Nodes with
 |false=>exact⟨_,200,rfl,fun h=>by cases h⟩
 |true=>
  simp only [gu]
  rw [bn (by decide)]
  obtain⟨cs,Y,J⟩:=xi e hr
  rw [Y]
  simp only [bo]
  rw [Cr]
  obtain⟨t,D⟩: ∃t,iN e.Nodes=some t:=by
   unfold fd at hr
   exact DH.1 hr
  obtain⟨hw,hN,hs⟩:=i8 D
  by_cases hcs:cs.all (fun c=>decide (c<((lt.map cV).length:Int)))=true
  ·rw [bE hcs]
   have hcol: ∀m∈e.Nodes,m.Tag=2->0<=m.Col/\m.Col<(lt.length:Int):=by
    intro m hm htag
    have Z:=jV.1 hcs _ ((J m.Col).2 ⟨m,hm,htag,rfl⟩)
    rw [zp]at Z
    exact⟨(qF hw 0 (by rw [<-hN];exact hm) htag).1,of_decide_eq_true Z⟩
   have hcT:rL lt.length t:=by
    refine rM _ t hw 0 ?_
    unfold oy
    rw [jV]
    intro m hm
    rw [<-hN]at hm
    by_cases htag:m.Tag=2
    ·have:=(hcol m hm htag).2
     simp [htag,this]
    ·simp [htag]
   have h4:=ym e lt (fun t D=>(hlt t D).2) e.Nodes 0 hcol (by omega)
   rw [show((0:Nat):Int)=0 from rfl]at h4
   rw [h4,hN,Jn lt t hw]
   by_cases hsz:1000<0+(pt lt t).size
   ·rw [bE hsz];exact⟨_,3,rfl,fun h=>by cases h⟩
   ·rw [bn hsz]
    have h5:jl ⟨t.flat 0⟩ (ig (lt.map cV))=some (cV (pt lt t),0):=by
     unfold jl
     have:=F5 lt (fun t D=>(hlt t D).2) t hw hcT 0 [] [] (by simp;omega) (by omega)
     rw [rR]at this
     rw [this]
     rfl
    have e9:e=⟨t.flat 0⟩:=by cases e;simp only at hN;rw [hN]
    rw [e9,h5]
    exact⟨_,0,rfl,fun _=>⟨t,by rw [e9]at D;exact D,hcT,by omega,rfl⟩⟩
  ·rw [bn hcs];exact⟨_,2,rfl,fun h=>by cases h⟩
def Ql(lt:List Tr)(hlt: ∀t∈lt,t.wf)(t:Tr):t.wf->rL lt.length t->(pt lt t).wf:=by
 induction t with
 |lf n=>
  intro hw hc
  unfold pt
  split
  ·rename_i D
   have hlt2:n.Col.toNat<lt.length:=by have:=hc D;have:=(KO hw.2.1 D).1;omega
   rw [rg hlt2]
   exact hlt _ (Bk hlt2)
  ·exact hw
 |un n a ih=>intro⟨h,ha⟩ hc;exact⟨h,ih ha hc⟩
 |bi n a b iha ihb=>intro⟨h,ha,V⟩ ⟨hca,hcb⟩;exact⟨h,iha ha hca,ihb V hcb⟩

def eJ:Tr->List Tr
 | .lf n=>[.lf n]
 | .un n a=>[.un n a]
 | .bi n a b=>if n.Tag=22 then eJ a++eJ b else [.bi n a b]
def mg(n:aj)(a b:Tr):eJ (.bi n a b)=if n.Tag=22 then eJ a++eJ b else [.bi n a b]:=rfl
def us(s:Nat)(x:Int):Int:=if 0<=x then x-(s:Int)else x
def Ft(s:Nat)(n:aj):aj:=dR n (us s n.L) (us s n.R)
def DN(k:Nat)(n:aj)(l r:Int):Ft k (dR n l r)=dR n (us k l) (us k r):=rfl
def zK{x:Int}(h:0<=x):us k x=x-(k:Int):=bE h
def Oh(k:Nat):us k (-1)= -1:=rfl
def Md(t:Tr)(k:Nat): ∀s,(t.flat (s+k)).map (Ft k)=t.flat s:=by
 induction t with
 |lf m=>intro s;rfl
 |un m a ih=>
  intro s
  have:=a.size_pos
  simp only [Tr.flat,yX,ih,py,vH,DN,Oh]
  rw [zK (by omega),show((s+k+a.size:Nat):Int)-1-(k:Int)=((s+a.size:Nat):Int)-1 from by omega]
 |bi m a b iha ihb=>
  intro s
  have:=a.size_pos
  have:=b.size_pos
  have V:=ihb (s+a.size)
  rw [show s+a.size+k=s+k+a.size from by omega]at V
  simp only [Tr.flat,yX,iha,V,py,vH,DN]
  rw [zK (by omega),zK (by omega),show((s+k+a.size:Nat):Int)-1-(k:Int)=((s+a.size:Nat):Int)-1 from by omega,show((s+k+a.size+b.size:Nat):Int)-1-(k:Int)=((s+a.size+b.size:Nat):Int)-1 from by omega]
def Rx(n:aj):Prop:= -1000000<=n.L/\n.L<=1000000/\ -1000000<=n.R/\n.R<=1000000
def IC(t:Tr): ∀s,s+t.size<=1000000-> ∀n∈t.flat s,Rx n:=by
 induction t with
 |lf m=>intro s _ n hn;simp only [Tr.flat,jY]at hn;subst hn;refine⟨?_,?_,?_,?_⟩<;>simp [dR]
 |un m a ih=>
  intro s hs n hn
  simp only [Tr.size]at hs
  simp only [Tr.flat,p9,jY]at hn
  rcases hn with hn|rfl
  ·exact ih s (by omega) n hn
  ·refine⟨?_,?_,?_,?_⟩<;>simp only [dR]<;>omega
 |bi m a b iha ihb=>
  intro s hs n hn
  simp only [Tr.size]at hs
  simp only [Tr.flat,p9,jY]at hn
  rcases hn with(hn|hn)|rfl
  ·exact iha s (by omega) n hn
  ·exact ihb _ (by omega) n hn
  ·refine⟨?_,?_,?_,?_⟩<;>simp only [dR]<;>omega
def Be(nx:List ai->List Int->Option (List ai))(out:List ai)(ho:out.length<=100000)(y:List Int)(k:Nat)(hk:k<=1000000)(xs:List aj)(V: ∀n∈xs,Rx n): ∀(tl:List aj) (i:Nat),xs.drop i=tl->
  i7 nx out y (k:Int) tl i ⟨(xs.take i).map (Ft k)++xs.drop i⟩=nx (out++[⟨xs.map (Ft k)⟩]) y
 |[],i,h=>by
  have:=Bp.1 h
  unfold i7
  rw [cL (by simp;omega)]
  unfold ou
  rw [h,rR,nM this]
  rfl
 |e::tl,i,h=>by
  have hi:i<xs.length:=by
   rcases lz i xs.length with q|q
   ·exact q
   ·rw [CA q]at h;cases h
  obtain⟨b1,b2,b3,b4⟩:=V xs[i] (Bk hi)
  have hd:xs.drop (i+1)=tl:=by rw [<-p8,h];rfl
  have ih:=Be nx out ho y k hk xs V tl (i+1) hd
  have hs:=zg (Ft k) xs i hi
  have I:=zk (Ft k) xs i hi
  unfold i7
  dsimp only
  rw [I]
  simp only [bo]
  have hk2: ∀(m:aj),m.Tag=xs[i].Tag->m.Col=xs[i].Col->m.Value=xs[i].Value->m.R=xs[i].R->m.L=us k xs[i].L-> ∀zs:List aj,zs[i]? =some m->zs.set i (Ft k xs[i])=(xs.take (i+1)).map (Ft k)++xs.drop (i+1)->
    ot (k:Int) (i7 nx out y (k:Int) tl) i ⟨zs⟩=nx (out++[⟨xs.map (Ft k)⟩]) y:=by
   intro m Y J Z h4 h5 zs hz hset
   unfold ot
   dsimp only
   rw [cI,hz]
   simp only [bo]
   by_cases hR:0<=m.R
   ·rw [bE (by simpa using hR)]
    have hm:({m with R:=IntKind.i64.wrap (m.R-(k:Int))}:aj)=Ft k xs[i]:=by
     rw [bH (by omega) (by omega)]
     obtain⟨mt,ml,mr,mc,mv⟩:=m
     simp only at Y J Z h4 h5 hR
     subst Y J Z h4 h5
     simp only [Ft,dR,zK hR]
    rw [hm,t8,hset]
    exact ih
   ·rw [bn (by simpa using hR)]
    have hm:m=Ft k xs[i]:=by
     obtain⟨mt,ml,mr,mc,mv⟩:=m
     simp only at Y J Z h4 h5 hR
     subst Y J Z h4 h5
     simp only [Ft,dR,us,bn hR]
    have e1:zs.set i (Ft k xs[i])=zs:=by
     rw [<-hm]
     apply BM
     intro j
     by_cases hj:j=i
     ·subst hj
      have hlt:=(qr.1 hz).1
      rw [List.getElem?_set_self hlt,hz]
     ·rw [List.getElem?_set_ne (by omega)]
    rw [<-e1,hset]
    exact ih
  have hzi:((xs.take i).map (Ft k)++xs.drop i)[i]? =some xs[i]:=by rw [<-cI];exact I
  have hlen:i<((xs.take i).map (Ft k)++xs.drop i).length:=(qr.1 hzi).1
  by_cases hL:0<=xs[i].L
  ·rw [bE (by simpa using hL),t8]
   refine hk2 ({xs[i]with L:=IntKind.i64.wrap (xs[i].L-(k:Int))}:aj) rfl rfl rfl rfl (by show IntKind.i64.wrap (xs[i].L-(k:Int))=_;rw [bH (by omega) (by omega),zK hL]) _ (by rw [List.getElem?_set_self hlen]) ?_
   rw [List.set_set];exact hs
  ·rw [bn (by simpa using hL)]
   exact hk2 xs[i] rfl rfl rfl rfl (by simp only [us,bn hL]) _ hzi hs
def wh(N:List aj)(all:List Int)(su:Nat×Tr):Prop:=su.2.wf/\su.1+su.2.size<=N.length/\(N.drop su.1).take su.2.size=su.2.flat su.1/\(all.drop su.1).take su.2.size=fl su.2 su.1
def D3(su:Nat×Tr):Int:=((su.1+su.2.size:Nat):Int)-1
def vz:Tr->Nat->aj
 | .lf n,_=>dR n (-1) (-1)
 | .un n a,s=>dR n (((s+a.size:Nat):Int)-1) (-1)
 | .bi n a b,s=>dR n (((s+a.size:Nat):Int)-1) (((s+a.size+b.size:Nat):Int)-1)
def IB(t:Tr)(s:Nat):(t.flat s)[t.size-1]? =some (vz t s):=by
 cases t with
 |lf n=>rfl
 |un n a=>
  simp only [Tr.flat,Tr.size,vz]
  rw [qC (by rw [a.flat_len];omega),a.flat_len]
  simp
 |bi n a b=>
  simp only [Tr.flat,Tr.size,vz]
  rw [qC (by simp [a.flat_len,b.flat_len]),jO,a.flat_len,b.flat_len]
  simp
def Ec{N xs:List α}{s j:Nat}(h:(N.drop s).take k=xs)(hj:j<k):N[s+j]? =xs[j]? :=by
 rw [<-h,wE hj,ue]
def Ea{N:List aj}{all:List Int}{su:Nat×Tr}(h:wh N all su):cU N (D3 su)=some (vz su.2 su.1)/\cU all (D3 su)=some (su.1:Int):=by
 obtain⟨hw,hl,Y,J⟩:=h
 have hp:=su.2.size_pos
 have e:D3 su=((su.1+(su.2.size-1):Nat):Int):=by unfold D3;omega
 rw [e,cI,cI,Ec Y (by omega),Ec J (by omega),IB,Hu]
 exact⟨rfl,rfl⟩
def BS{N xs ys zs:List α}{s a b:Nat}(h:(N.drop s).take k=xs++ys++zs)(I:xs.length=a)(hy:ys.length=b):(N.drop s).take a=xs/\(N.drop (s+a)).take b=ys:=by
 have hk:a+b<=k:=by
  have:=congrArg List.length h
  simp only [zq,jO,Bj]at this
  omega
 constructor
 ·have:=congrArg (List.take a) h
  rw [vI,vh (by omega)]at this
  rw [this,jC,vM (by omega),nM (by omega)]
 ·have this:(((N.drop s).take k).drop a).take b=((xs++ys++zs).drop a).take b:=by rw [h]
  rw [zm,p8,vI,vh (by omega)]at this
  rw [this,jC,DD (by omega),Bq (by omega),je,vM (by omega),nM (by omega)]
def Ik{N:List aj}{all:List Int}{s:Nat}{n:aj}{a b:Tr}(h:wh N all (s,.bi n a b)):wh N all (s,a)/\wh N all (s+a.size,b):=by
 obtain⟨⟨_,ha,V⟩,hl,Y,J⟩:=h
 simp only [Tr.size,Tr.flat,fl]at hl Y J
 obtain⟨Z,h4⟩:=BS Y (a.flat_len s) (b.flat_len _)
 obtain⟨h5,h6⟩:=BS J (pX a s) (pX b _)
 exact⟨⟨ha,by show s+a.size<=_;omega,Z,h5⟩,⟨V,by show s+a.size+b.size<=_;omega,h4,h6⟩⟩
def Li:List (Nat×Tr)->Nat
 |[]=>0
 |su::st=>su.2.size+Li st
def JJ(st:List (Nat×Tr)):List ai:=st.flatMap fun su=>(eJ su.2).map cV
def KZ{s:Nat}(hw:t.wf)(h:(vz t s).Tag≠22):eJ t=[t]:=by
 cases t with
 |lf n=>rfl
 |un n a=>rfl
 |bi n a b=>rw [mg,bn (show¬n.Tag=22 from h)]
def KY{s:Nat}(hw:t.wf)(h:(vz t s).Tag=22): ∃n a b,t= .bi n a b/\n.Tag=22:=by
 cases t with
 |lf n=>
  have h:n.Tag=22:=h
  have Y:=hw.1
  rw [h]at Y;simp [pk]at Y
 |un n a=>
  have h:n.Tag=22:=h
  have Y:=hw.1.1
  rw [h]at Y;simp [pk]at Y
 |bi n a b=>exact⟨n,a,b,rfl,h⟩
def wz(N:List aj)(hN:N.length<=100000)(all:List Int)(b:Bool): ∀(fu:Nat) (st:List (Nat×Tr)) (out:List ai),(∀su∈st,wh N all su)->Li st<fu->st.length<=100000->out.length+Li st<=90000->
  gO ⟨N⟩ (all,b) fu out (st.map D3).reverse=some (out++JJ st)
 |0,_,_,_,h,_,_=>by omega
 |fu+1,[],out,_,_,_,_=>by
  unfold gO
  simp [JJ]
 |fu+1,su::st,out,hp,X,hs,ho=>by
  have hp0:=hp su (mp ..)
  obtain⟨Y,J⟩:=Ea hp0
  simp only [jv]at hs
  simp only [Li]at X ho
  have hpos:=su.2.size_pos
  unfold gO
  have hlen:((su::st).map D3).reverse.length=st.length+1:=by simp
  rw [bE (by rw [hlen];simp<;>omega),hlen,bH (by omega) (by omega)]
  have e1:((su::st).map D3).reverse=(st.map D3).reverse++[D3 su]:=by simp
  rw [e1,kg st.length (by omega),qC (by simp)]
  simp only [List.length_reverse,zp,xz,Fw,bo]
  rw [ia (i:=0) 0 st.length rfl (by omega) (mJ _) (by simp),t6]
  rw [vM (by simp),nM (by simp)]
  simp only [bo]
  rw [Y]
  simp only [bo]
  have hp' : ∀q∈st,wh N all q:=fun q hq=>hp q (nu _ hq)
  by_cases D:(vz su.2 su.1).Tag=22
  ·rw [bE (by simp [D])]
   obtain⟨s,u⟩:=su
   obtain⟨n,a,c,rfl,hn⟩:=KY hp0.1 D
   obtain⟨hpa,hpb⟩:=Ik hp0
   simp only [Tr.size]at X ho
   have e2:(st.map D3).reverse++[(vz (.bi n a c) s).R,(vz (.bi n a c) s).L]=(((s,a)::(s+a.size,c)::st).map D3).reverse:=by
    simp [vz,dR,D3]
   simp only at hN ⊢
   rw [cL (by simp;omega)]
   simp only [bo]
   unfold ou
   rw [e2,wz N hN all b fu ((s,a)::(s+a.size,c)::st) out (fun q hq=>by
    rcases gB.1 hq with rfl|hq
    ·exact hpa
    ·rcases gB.1 hq with rfl|hq
     ·exact hpb
     ·exact hp' q hq) (by simp only [Li];omega) (by
      have: ∀l:List (Nat×Tr),l.length<=Li l:=by
       intro l
       induction l with
       |nil=>exact dr _
       |cons q l ih=>have:=q.2.size_pos;simp [Li];omega
      have:=this st
      simp only [jv];omega) (by simp only [Li];omega)]
   congr 2
   simp only [JJ,List.flatMap_cons,mg,bE hn,yX,jC]
  ·rw [bn (by simpa using D),J]
   obtain⟨s,u⟩:=su
   obtain⟨hw,hl,Z,h4⟩:=hp0
   simp only at hl Z h4 hpos X ho ⊢
   simp only [bo]
   have e3:IntKind.i64.wrap (D3 (s,u)+1)=((s+u.size:Nat):Int):=by
    unfold D3
    simp only
    rw [bH (by omega) (by omega)];omega
   rw [e3,ia s (s+u.size) rfl rfl (by omega) hl]
   have e4:(N.take (s+u.size)).drop s=u.flat s:=by rw [zm,Nat.add_sub_cancel_left];exact Z
   rw [e4]
   simp only [bo]
   rw [tu _ (by rw [u.flat_len];omega)]
   simp only [bo]
   have h5:=Be (gO ⟨N⟩ (all,b) fu) out (by omega) (st.map D3).reverse s (by omega) (u.flat s) (IC u s (by omega)) (u.flat s) 0 rfl
   simp only [List.take_zero,vH,je,t6]at h5
   rw [h5]
   have h6:=Md u s 0
   rw [pS]at h6
   rw [h6,wz N hN all b fu st _ hp' (by omega) (by omega) (by simp;omega)]
   congr 1
   simp only [JJ,List.flatMap_cons,KZ hw D,py,vH,jC]
   rfl
def Di(e:ai)(hl:e.Nodes.length<=80000):vb e=some (match iN e.Nodes with
  |none=>[]
  |some t=>(eJ t).map cV):=by
 unfold vb
 have X:=Ce e.Nodes [] (by simp [bU];omega)
 simp only [bU,ER,j7]at X
 unfold pO
 rw [show((0:Nat))=0 from rfl]at X
 rw [X]
 unfold iN
 cases hp:mX e.Nodes []with
 |none=>rfl
 |some st=>
  have hsz:=yH hp
  match st,hsz with
  |[],_=>rfl
  |[t],hsz=>
   simp only [bo,jv,pT,pS,decide_true,yW]
   have hw:=(qT hp (fun t D=>by cases D)).2 t (mp ..)
   have hfl:=(qT hp (fun t D=>by cases D)).1
   simp only [sP,bU,je,pS]at hfl hsz
   simp only [bU,pS,hsz]
   by_cases Y:e.Nodes.length<=1000
   ·rw [bn (by simp [Y])]
    simp only [Y,decide_true,gu]
    have hpl:wh e.Nodes (ER [t]) (0,t):=by
     refine⟨hw,by show 0+t.size<=_;omega,?_,?_⟩
     ·simp only [t6];rw [<-hfl,nM (by rw [t.flat_len];exact dr _)]
     ·simp only [ER,bU,je,t6];rw [nM (by rw [pX];exact dr _)]
    have J:=wz e.Nodes (by omega) (ER [t]) true gi [(0,t)] [] (fun q hq=>by
     simp only [jY]at hq;subst hq;exact hpl) (by simp only [Li];exact ud (yY _) (i6 (by omega))) (by simp) (by simp [Li];omega)
    have e2:([(0,t)].map D3).reverse=[((e.Nodes.length:Int)-1)]:=by
     simp only [py,vH,List.reverse_cons,List.reverse_nil,je,D3]
     rw [<-hsz];simp
    rw [e2]at J
    rw [bH (by omega) (by omega)]
    have e9:(⟨e.Nodes⟩:ai)=e:=rfl
    rw [e9]at J
    rw [J]
    simp [JJ]
   ·rw [bE (by simp [Y])]
    simp only [Y,gE]
  |t::t2::st,_=>simp

def fA(v:bN)(l:List bN):bN:=l.foldl SU v
def HE(t:Tr):eJ t≠[]:=by
 induction t with
 |lf n=>simp [eJ]
 |un n a _=>simp [eJ]
 |bi n a b iha ihb=>
  rw [mg]
  split
  ·simp [iha]
  ·simp
def Lj:aj:=⟨22,-1,-1,0,zV⟩
def iR(a:Tr)(l:List Tr):Tr:=l.foldl (fun x y=> .bi Lj x y) a
def pD(l:List Tr):Nat:=(l.map Tr.size).sum
def mu(a:Tr)(l:List Tr):pD (a::l)=a.size+pD l:=by simp [pD]
def DQ(a b:List Tr):pD (a++b)=pD a+pD b:=by simp [pD]
def Cl(t:Tr):pD (eJ t)+(eJ t).length=t.size+1:=by
 induction t with
 |lf n=>rfl
 |un n a _=>simp [eJ,pD]
 |bi n a b iha ihb=>
  rw [mg]
  split
  ·rw [DQ,jO];simp only [Tr.size];omega
  ·simp [pD]
def o6: ∀(l:List Tr) (a:Tr),(iR a l).size=a.size+pD l+l.length
 |[],a=>rfl
 |y::l,a=>by
  show(iR (.bi Lj a y) l).size=_
  rw [o6 l,mu]
  simp only [Tr.size,jv];omega
def Ow:Ou 2 Lj:=⟨rfl,rfl,rfl,rfl⟩
def HG: ∀(l:List Tr) (a:Tr),a.wf->(∀u∈l,u.wf)->(iR a l).wf
 |[],_,h,_=>h
 |y::l,a,h,k=>HG l (.bi Lj a y) ⟨Ow,h,k y (mp ..)⟩ fun u hu=>k u (nu _ hu)
def Cn: ∀(l:List Tr) (a:Tr),(∀u∈l,eJ u=[u])->eJ (iR a l)=eJ a++l
 |[],a,_=>by simp [iR]
 |y::l,a,k=>by
  show eJ (iR (.bi Lj a y) l)=_
  rw [Cn l _ fun u hu=>k u (nu _ hu),mg,bE (show Lj.Tag=22 from rfl),k y (mp ..)]
  simp
def Cw: ∀(l:List Tr) (a:Tr),(iR a l).size<=50000->pR (l.map cV) (cV a)=some (cV (iR a l),0)
 |[],a,_=>rfl
 |y::l,a,h=>by
  simp only [py]
  unfold pR
  have Y:(iR (.bi Lj a y) l).size<=50000:=h
  rw [o6]at Y
  simp only [Tr.size]at Y
  have J:i9 ⟨22,0,0,0,⟨0,0,0,[]⟩⟩ [cV a,cV y]=some (cV (.bi Lj a y)):=Hp ⟨22,0,0,0,⟨0,0,0,[]⟩⟩ a y (by omega)
  rw [J]
  exact Cw l (.bi Lj a y) h
def yO(a:Tr)(l:List Tr)(hw: ∀u∈a::l,u.wf/\u.size<=1000)(hs:pD (a::l)+l.length<=1000):ov ((a::l).map cV)=some (cV (iR a l),0):=by
 unfold ov o4
 have hll: ∀l:List Tr,l.length<=pD l:=by
  intro l
  induction l with
  |nil=>exact dr _
  |cons q l ih=>have:=q.size_pos;rw [mu];simp;omega
 have hll2:=hll (a::l)
 have hn:=wY ((a::l).map cV) 0 (by
  intro q hq
  obtain⟨t,D,rfl⟩:=rQ.1 hq
  have:=(hw t D).2
  simp only [cV,Tr.flat_len];omega) (by rw [zp];omega)
 rw [show((0:Nat):Int)=0 from rfl]at hn
 rw [hn]
 have hall:((a::l).map cV).all (fun e=>fd e.Nodes)=true:=by
  rw [jV]
  intro q hq
  obtain⟨t,D,rfl⟩:=rQ.1 hq
  exact pF (hw t D).1 (hw t D).2
 have hsum:(((a::l).map cV).map fun e=>e.Nodes.length).sum=pD (a::l):=by
  rw [yq]
  unfold pD
  congr 1
  apply Bn
  intro t _
  simp only [Function.comp_apply,cV,Tr.flat_len]
 rw [hall,hsum]
 simp only [gu,bo]
 rw [bn (by decide),bn (by simp;omega)]
 rw [zp,bH (n:=((0+pD (a::l):Nat):Int)+((a::l).length:Int)) (by omega) (by omega),bH (by omega) (by omega)]
 rw [bn (by simp only [jv,zy];omega)]
 simp only [py]
 rw [show cU (cV a::l.map cV) 0=some (cV a)from rfl]
 simp only [bo]
 have hsa:=(hw a (mp ..)).2
 rw [tu _ (by simp only [cV,Tr.flat_len];omega)]
 simp only [bo]
 rw [show(1:Int)=((1:Nat):Int)from rfl,ia 1 (cV a::l.map cV).length rfl (by simp) (by simp) (dr _)]
 simp only [zr,bo]
 rw [mu]at hs
 exact Cw l a (by rw [o6];omega)
def qA:Tr->Bool
 | .lf n=>GN n
 | .un n a=>qA a||GN n
 | .bi n a b=>qA a||qA b||GN n
def ES(t:Tr): ∀s,(t.flat s).any GN=qA t:=by
 induction t with
 |lf n=>intro s;simp only [Tr.flat,BH,List.any_nil,Bool.or_false,qA];rfl
 |un n a ih=>intro s;simp only [Tr.flat,List.any_append,ih,BH,List.any_nil,Bool.or_false,qA];rfl
 |bi n a b iha ihb=>intro s;simp only [Tr.flat,List.any_append,iha,ihb,BH,List.any_nil,Bool.or_false,qA];rfl
def uT(hw:t.wf)(hs:t.size<=1000):mE (cV t)=some (!(qA t)):=by
 rw [Dh _ (by simp only [cV,Tr.flat_len];omega)]
 unfold cV
 rw [pF hw hs,ES];rfl
def Cm(t:Tr):(eJ t).all (fun u=> !(qA u))= !(qA t):=by
 induction t with
 |lf n=>simp [eJ]
 |un n a _=>simp [eJ]
 |bi n a b iha ihb=>
  rw [mg]
  split
  ·rename_i hn
   rw [List.all_append,iha,ihb]
   have:GN n=false:=by unfold GN;rw [hn];rfl
   simp [qA,this]
  ·simp

def KW{a b:Bool}(h:a=true↔b=true):a=b:=by cases a<;>cases b<;>simp_all
def Nx: ∀{l m:List Int},l.Pairwise (· < ·)->m.Pairwise (· < ·)->(∀x,x∈l↔x∈m)->l=m
 |[],[],_,_,_=>rfl
 |[],y::m,_,_,h=>by have:=(h y).2 (mp ..);cases this
 |x::l,[],_,_,h=>by have:=(h x).1 (mp ..);cases this
 |x::l,y::m,hl,hm,h=>by
  rw [Bm]at hl hm
  have hxy:x=y:=by
   have Y:=(h x).1 (mp ..)
   have J:=(h y).2 (mp ..)
   rcases gB.1 Y with Y|Y
   ·exact Y
   ·rcases gB.1 J with J|J
    ·exact J.symm
    ·have:=hm.1 x Y;have:=hl.1 y J;omega
  subst hxy
  congr 1
  refine Nx hl.2 hm.2 fun z=>?_
  constructor
  ·intro hz
   have Y:=(h z).1 (nu _ hz)
   rcases gB.1 Y with rfl|Y
   ·have:=hl.1 z hz;omega
   ·exact Y
  ·intro hz
   have Y:=(h z).2 (nu _ hz)
   rcases gB.1 Y with rfl|Y
   ·have:=hm.1 z hz;omega
   ·exact Y
def Dl: ∀(p:Int) (l:List Int),(p::l).Pairwise (· <= ·)->(p::tU p l).Pairwise (· < ·)
 |p,[],_=>by rw [AR];simp
 |p,x::t,h=>by
  rw [Bm,Bm]at h
  have hpx:=h.1 x (mp ..)
  by_cases I:x=p
  ·rw [yg I]
   subst I
   exact Dl x t (Bm.2 h.2)
  ·rw [Dk I]
   have ih:=Dl x t (Bm.2 h.2)
   refine Bm.2 ⟨fun z hz=>?_,ih⟩
   rcases gB.1 hz with rfl|hz
   ·omega
   ·have:=(Bm.1 ih).1 z hz;omega
def KM(l:List Int)(h:l.Pairwise (· <= ·)):(AQ l).Pairwise (· < ·):=by
 cases l with
 |nil=>exact List.Pairwise.nil
 |cons x t=>exact Dl x t h
def Ju(l:List Int):(sortI l).Pairwise (· <= ·):=by
 unfold sortI
 have:=List.pairwise_mergeSort (le:=fun x y:Int=>decide (x<=y)) (fun a b c Y J=>by simp at*;omega) (fun a b=>by simp;omega) l
 exact this.imp fun h=>by simpa using h
def GH(ns:List aj):List Int:=(ns.filter fun n=>n.Tag==2).map (·.Col)
def uQ: ∀(ns:List aj) (out:List Int),out.length+ns.length<=8000->iw ns out=some (AQ (sortI (out++GH ns)))
 |[],out,h=>by
  unfold iw;rw [xG]
  rw [bE (by simp at h;omega)]
  simp only [bo]
  rw [AX _ (by rw [uR];simpa using h)]
  simp [GH]
 |n::ns,out,h=>by
  simp only [jv]at h
  unfold iw
  by_cases D:n.Tag=2
  ·rw [bE (by simp [D]),cL (by simp;omega)]
   simp only [bo]
   rw [uQ ns (out++[n.Col]) (by simp;omega)]
   simp [GH,D]
  ·rw [bn (by simp [D]),uQ ns out (by omega)]
   simp [GH,D]
def JY(ns:List aj)(c:Int):c∈GH ns↔ ∃n∈ns,n.Tag=2/\n.Col=c:=by
 unfold GH
 rw [rQ]
 constructor
 ·rintro⟨n,hn,rfl⟩
  rw [vv]at hn
  exact⟨n,hn.1,by simpa using hn.2,rfl⟩
 ·rintro⟨n,hn,D,rfl⟩
  exact⟨n,vv.2 ⟨hn,by simp [D]⟩,rfl⟩
def C4(ns:List aj)(i:Nat):Bool:=ns.any fun n=>n.Tag==2&&n.Col==(i:Int)
def D6(nx:Nat->List Int->Option (List Int))(i:Nat)(out:List Int)(ho:out.length<=1000): ∀ns:List aj,pj nx i ns out=nx (i+1) (if C4 ns i then out++[(i:Int)]else out)
 |[]=>rfl
 |n::ns=>by
  unfold pj se
  by_cases h:(n.Tag==2&&n.Col==(i:Int))=true
  ·rw [bE h,cL (by simp;omega)]
   simp [C4,h]
  ·rw [bn h,D6 nx i out ho ns]
   rw [wC]at h
   simp [C4,h]
def G6(ns:List aj):Nat->Nat->List Int
 |0,_=>[]
 |k+1,i=>(if C4 ns i then [(i:Int)]else [])++G6 ns k (i+1)
def wP(e:ai): ∀(k i:Nat) (out:List Int),out.length+k<=100->mW e k i out=some (out++G6 e.Nodes k i)
 |0,i,out,_=>by simp [mW,G6]
 |k+1,i,out,h=>by
  unfold mW
  rw [D6 _ i out (by omega),wP e k (i+1) _ (by split<;>(try simp)<;>omega)]
  simp only [G6]
  split<;>simp
def FH(ns:List aj): ∀(k i:Nat),(G6 ns k i).Pairwise (· < ·)/\ ∀x∈G6 ns k i,(i:Int)<=x
 |0,i=>⟨List.Pairwise.nil,fun x I=>by cases I⟩
 |k+1,i=>by
  obtain⟨Y,J⟩:=FH ns k (i+1)
  simp only [G6]
  split
  ·refine⟨Bm.2 ⟨fun x I=>by have:=J x I;omega,Y⟩,fun x I=>?_⟩
   rcases gB.1 I with rfl|I
   ·omega
   ·have:=J x I;omega
  ·exact⟨Y,fun x I=>by have:=J x I;omega⟩
def w7(ns:List aj): ∀(k i:Nat) (x:Int),x∈G6 ns k i↔ ∃j:Nat,i<=j/\j<i+k/\x=(j:Int)/\C4 ns j=true
 |0,i,x=>by simp [G6];intro j Y J;omega
 |k+1,i,x=>by
  simp only [G6,p9,w7 ns k (i+1)]
  constructor
  ·rintro(h|⟨j,Y,J,Z,h4⟩)
   ·split at h
    ·rename_i hc
     simp only [jY]at h
     exact⟨i,dr _,by omega,h,hc⟩
    ·cases h
   ·exact⟨j,by omega,by omega,Z,h4⟩
  ·rintro⟨j,Y,J,Z,h4⟩
   by_cases hj:j=i
   ·subst hj;left;rw [bE h4,Z];simp
   ·right;exact⟨j,by omega,by omega,Z,h4⟩
def IN(e:ai)(D:iN e.Nodes=some t): ∃cs,kq e=some cs/\lX e=some cs:=by
 obtain⟨hw,hN,hs⟩:=i8 D
 have hr:fd e.Nodes=true:=by unfold fd;rw [D];rfl
 have hl:=s7 hr
 refine⟨AQ (sortI (GH e.Nodes)),?_,?_⟩
 ·unfold kq
  rw [lw e (by omega),hr]
  have:=uQ e.Nodes [] (by simp;omega)
  simpa using this
 ·unfold lX
  rw [wP e 16 0 [] (by simp),je]
  congr 1
  refine Nx (FH _ 16 0).1 (KM _ (Ju _)) fun x=>?_
  rw [B5,B4,JY,w7]
  constructor
  ·rintro⟨j,_,_,rfl,hc⟩
   unfold C4 at hc
   obtain⟨n,hn,hc⟩:=vJ.1 hc
   simp at hc
   exact⟨n,hn,hc.1,hc.2⟩
  ·rintro⟨n,hn,htag,rfl⟩
   have V:=qF hw 0 (by rw [<-hN];exact hn) htag
   refine⟨n.Col.toNat,by omega,by omega,by omega,?_⟩
   unfold C4
   exact vJ.2 ⟨n,hn,by simp [htag];omega⟩
end Go.Proofs.YtbmmihfagmchaaaGreat

