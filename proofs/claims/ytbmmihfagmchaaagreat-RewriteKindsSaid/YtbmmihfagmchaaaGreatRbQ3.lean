/- cP of this claim: M1, M2, M3, M4, M5, M6, M7, M8, M9. -/
import Derived.Test.YtbmmihfagmchaaaGreatRbQ1
set_option linter.all false
namespace Go.Proofs.YtbmmihfagmchaaaGreat
open Go

def zV:bK:=⟨0,0,0,[]⟩
def bV(b:Bool):bK:=⟨1,if b then 1 else 0,0,[]⟩
def iV(n:Int):bK:=⟨2,n,0,[]⟩
def sV(s:I6):bK:=⟨3,0,0,s⟩
def r64(n:Int):Prop:= -9223372036854775808<=n/\n<=9223372036854775807
inductive Pl:bK->Prop
 |z:Pl zV
 |b (b:Bool):Pl (bV b)
 |i (n:Int) (h:r64 n):Pl (iV n)
 |s (s:I6) (h:s.length<=40):Pl (sV s)
inductive Tu:bK->Prop
 |z:Tu zV
 |b (b:Bool):Tu (bV b)
def tn(v:bK):Int:=if v.Kind=0 then 1 else 2*v.N
def tv(n:Int):bK:=if n=0 then bV false else if n=1 then zV else bV true
def SM(a b:bK):bK:=tv (min (tn a) (tn b))


variable{t:Tr}
def qv(hw:t.wf): ∀s {n:aj},n∈t.flat s->n.Tag=2->0<=n.Col/\n.Col<16:=by
 induction t with
 |lf m=>
  intro s n hn D
  simp only [Tr.flat,jL]at hn
  subst hn
  exact KT hw.2.1 D
 |un m a ih=>
  intro s n hn D
  simp only [Tr.flat,pY,jL]at hn
  rcases hn with hn|rfl
  ·exact ih hw.2 s hn D
  ·exact absurd (PE hw.1.1 D) (by decide)
 |bi m a b iha ihb=>
  intro s n hn D
  simp only [Tr.flat,pY,jL]at hn
  rcases hn with(hn|hn)|rfl
  ·exact iha hw.2.1 s hn D
  ·exact ihb hw.2.2 _ hn D
  ·exact absurd (PE hw.1.1 D) (by decide)

variable{α:Type}
def ya(l:List α)(m:Nat)(hm:m<=100000):((db l 0 (min (l.length:Int) (m:Int))).bind fun y=>(jp ([]:List α) y).bind fun x=>some x)=some (l.take m):=by
 rw [gU (i:=0) 0 (min l.length m) rfl (by omega) (mC _) (Nat.min_le_left _ _)]
 simp only [bt,tQ]
 rw [cC (by simp;omega)]
 simp only [bt,iW]
 congr 1
 rcases Nat.le_total l.length m with h|h
 ·rw [u3 h,zn,nE h]
 ·rw [Nat.min_eq_right h]
def Nf(s:I6):I6:=s.take 41
def IC(n:aj):aj:={n with Value:={n.Value with S:=Nf n.Value.S}}
def H3(s:I6):db s 0 (min (s.length:Int) (41:Int))=some (Nf s):=by
 rw [gU (i:=0) 0 (min s.length 41) rfl (by omega) (mC _) (Nat.min_le_left _ _),tQ]
 congr 1
 unfold Nf
 rcases Nat.le_total s.length 41 with h|h
 ·rw [u3 h,zn,nE h]
 ·rw [Nat.min_eq_right h]
def zd(f:α->α)(xs:List α)(i:Nat)(h:i<xs.length):((xs.take i).map f++xs.drop i).set i (f xs[i])=(xs.take (i+1)).map f++xs.drop (i+1):=by
 rw [List.set_append_right _ _ (by simp;omega)]
 have e:i-((xs.take i).map f).length=0:=by simp;omega
 rw [e,xu h,List.set_cons_zero,HQ h,yW]
 simp
def zh(f:α->α)(xs:List α)(i:Nat)(h:i<xs.length):cQ ((xs.take i).map f++xs.drop i) (i:Int)=some xs[i]:=by
 rw [cw,qq (by simp;omega)]
 have e:i-((xs.take i).map f).length=0:=by simp;omega
 rw [e,tW]
 simp [h]
def vJ(ns:List aj)(m:Nat):List aj:=(ns.take m).map IC
def vI(ns:List aj)(m:Nat):(vJ ns m).length<=m:=by simp [vJ];omega

def C8(e:ai)(h:e.Nodes.length<=50000):j9 e=some (dX e.Nodes&& !(e.Nodes.any Fp)):=by
 unfold j9
 rw [jI e (by omega)]
 cases dX e.Nodes with
 |false=>rfl
 |true=>
  simp only [fP,bt]
  rw [bD (by decide)]
  have key: ∀(l:List aj),cK l nw=some (l.any Fp):=by
   intro l
   unfold cK dT
   have J: ∀(l:List aj) (i:Nat),∃z:Int,bY nw l i=some z/\(0<=z↔l.any Fp=true):=by
    intro l
    induction l with
    |nil=>intro i;exact⟨-1,rfl,by simp⟩
    |cons n l ih=>
     intro i
     unfold bY
     have e1:nw n=some (Fp n):=rfl
     rw [e1]
     simp only [bt]
     cases V:Fp n with
     |true=>exact⟨(i:Int),by simp,by simp [V]⟩
     |false=>
      obtain⟨z,Z,h4⟩:=ih (i+1)
      exact⟨z,by simpa using Z,by simpa [V] using h4⟩
   obtain⟨z,Z,h4⟩:=J l 0
   rw [Z]
   simp only [bt]
   congr 1
   rw [zk,<-h4];simp
  rw [key];rfl

def sh(s:Nat)(x:Int):Int:=if 0<=x then x+(s:Int)else x
def wA(s:Nat)(n:aj):aj:=dK n (sh s n.L) (sh s n.R)
def bnd(n:aj):Prop:=n.L<=1000000/\n.R<=1000000
def Kg(t:Tr): ∀s,s+t.size<=1000000-> ∀n∈t.flat s,bnd n:=by
 induction t with
 |lf m=>intro s _ n hn;simp only [Tr.flat,jL]at hn;subst hn;exact⟨by simp [dK],by simp [dK]⟩
 |un m a ih=>
  intro s hs n hn
  simp only [Tr.size]at hs
  simp only [Tr.flat,pY,jL]at hn
  rcases hn with hn|rfl
  ·exact ih s (by omega) n hn
  ·constructor<;>simp only [dK]<;>omega
 |bi m a b iha ihb=>
  intro s hs n hn
  simp only [Tr.size]at hs
  simp only [Tr.flat,pY,jL]at hn
  rcases hn with(hn|hn)|rfl
  ·exact iha s (by omega) n hn
  ·exact ihb _ (by omega) n hn
  ·constructor<;>simp only [dK]<;>omega
variable{k:Nat}
def DQ(k:Nat)(n:aj)(l r:Int):wA k (dK n l r)=dK n (sh k l) (sh k r):=rfl
def FK{x:Int}(h:0<=x):sh k x=x+(k:Int):=bD h
def Oq(k:Nat):sh k (-1)= -1:=rfl
def Mh(t:Tr)(k:Nat): ∀s,(t.flat s).map (wA k)=t.flat (s+k):=by
 induction t with
 |lf m=>intro s;rfl
 |un m a ih=>
  intro s
  have:=a.size_pos
  simp only [Tr.flat,yW,ih,pn,vq,DQ,Oq]
  rw [FK (by omega),show((s+a.size:Nat):Int)-1+(k:Int)=((s+k+a.size:Nat):Int)-1 from by omega]
 |bi m a b iha ihb=>
  intro s
  have:=a.size_pos
  have:=b.size_pos
  simp only [Tr.flat,yW,iha,ihb,pn,vq,DQ]
  rw [FK (by omega),FK (by omega),show s+a.size+k=s+k+a.size from by omega,show((s+a.size:Nat):Int)-1+(k:Int)=((s+k+a.size:Nat):Int)-1 from by omega,show((s+a.size+b.size:Nat):Int)-1+(k:Int)=((s+k+a.size+b.size:Nat):Int)-1 from by omega]
def Hg(out:List aj)(ho:out.length<=1000000): ∀(ns out1:List aj),(∀n∈ns,bnd n)->out1.length+ns.length<=1000000->ig out ns out1=some (out1++ns.map (wA out.length))
 |[],out1,_,_=>by simp [ig]
 |n::ns,out1,V,hl=>by
  simp only [i6]at hl
  obtain⟨Y,J⟩:=V n (lK ..)
  have ih:=Hg out ho ns (out1++[wA out.length n]) (fun m hm=>V m (mZ _ hm)) (by simp;omega)
  have e9:out1++(n::ns).map (wA out.length)=out1++[wA out.length n]++ns.map (wA out.length):=by simp
  rw [e9]
  unfold ig
  have hk2: ∀m,m=wA out.length n->od (ig out ns) out1 m=some (out1++[wA out.length n]++ns.map (wA out.length)):=by
   intro m hm
   unfold od
   rw [cC (by simp;omega),hm]
   exact ih
  by_cases hL:0<=n.L
  ·rw [bD (by simpa using hL)]
   unfold oe
   rw [bB (n:=n.L+(out.length:Int)) (by omega) (by omega)]
   by_cases hR:0<=n.R
   ·rw [bD (by simpa using hR)]
    dsimp only
    rw [bB (n:=n.R+(out.length:Int)) (by omega) (by omega)]
    exact hk2 _ (by simp only [wA,dK,sh,bD hL,bD hR])
   ·rw [bo (by simpa using hR)]
    exact hk2 _ (by simp only [wA,dK,sh,bD hL,bo hR])
  ·rw [bo (by simpa using hL)]
   unfold oe
   by_cases hR:0<=n.R
   ·rw [bD (by simpa using hR)]
    rw [bB (n:=n.R+(out.length:Int)) (by omega) (by omega)]
    exact hk2 _ (by simp only [wA,dK,sh,bo hL,bD hR])
   ·rw [bo (by simpa using hR)]
    exact hk2 _ (by simp only [wA,dK,sh,bo hL,bo hR])
def xS(out:List aj)(t:Tr)(h:out.length+t.size<=1000000):uW out ⟨t.flat 0⟩=some (out++t.flat out.length):=by
 unfold uW
 rw [Hg out (by omega) _ _ (Kg t 0 (by omega)) (by rw [t.flat_len];exact h),Mh]
 simp
def Mc(n:aj):iT n []=some ⟨(Tr.lf n).flat 0⟩:=by
 unfold iT gB
 rw [show cQ [(-1:Int),-1] 0=some (-1)from rfl,show cQ [(-1:Int),-1] 1=some (-1)from rfl]
 simp only [bt]
 rw [cC (by simp)]
 rfl
def Mb(n:aj)(a:Tr)(h:a.size<=100000):iT n [⟨a.flat 0⟩]=some ⟨(Tr.un n a).flat 0⟩:=by
 unfold iT gB
 rw [xS [] a (by simp;omega)]
 simp only [bt,iW,pM]
 rw [show cQ [(-1:Int),-1] ((0:Nat):Int)=some (-1)from rfl,a.flat_len,bB (by omega) (by omega)]
 simp only [bt]
 unfold gB
 rw [show([(-1:Int),-1].set ((0:Nat):Int).toNat ((a.size:Int)-1))=[(a.size:Int)-1,-1]from rfl]
 rw [show cQ [(a.size:Int)-1,-1] 0=some ((a.size:Int)-1)from rfl,show cQ [(a.size:Int)-1,-1] 1=some (-1)from rfl]
 simp only [bt]
 rw [cC (by simp [a.flat_len];omega)]
 simp [Tr.flat,dK]
def Hl(n:aj)(a b:Tr)(h:a.size+b.size<=100000):iT n [⟨a.flat 0⟩,⟨b.flat 0⟩]=some ⟨(Tr.bi n a b).flat 0⟩:=by
 unfold iT gB
 rw [xS [] a (by simp;omega)]
 simp only [bt,iW,pM]
 rw [show cQ [(-1:Int),-1] ((0:Nat):Int)=some (-1)from rfl,a.flat_len,bB (by omega) (by omega)]
 simp only [bt]
 unfold gB
 rw [xS (a.flat 0) b (by rw [a.flat_len];omega)]
 rw [show([(-1:Int),-1].set ((0:Nat):Int).toNat ((a.size:Int)-1))=[(a.size:Int)-1,-1]from rfl]
 simp only [bt]
 rw [show cQ [(a.size:Int)-1,-1] ((0+1:Nat):Int)=some (-1)from rfl]
 simp only [bt]
 rw [jE,a.flat_len,b.flat_len,bB (by omega) (by omega)]
 unfold gB
 rw [show([(a.size:Int)-1,-1].set ((0+1:Nat):Int).toNat (((a.size+b.size:Nat):Int)-1))=[(a.size:Int)-1,((a.size+b.size:Nat):Int)-1]from rfl]
 rw [show cQ [(a.size:Int)-1,((a.size+b.size:Nat):Int)-1] 0=some ((a.size:Int)-1)from rfl,show cQ [(a.size:Int)-1,((a.size+b.size:Nat):Int)-1] 1=some (((a.size+b.size:Nat):Int)-1)from rfl]
 simp only [bt]
 rw [cC (by simp [a.flat_len,b.flat_len];omega)]
 simp [Tr.flat,dK]
def cU(t:Tr):ai:=⟨t.flat 0⟩
def pt(lt:List Tr):Tr->Tr
 | .lf n=>if n.Tag=2 then(lt[n.Col.toNat]?).getD default else .lf n
 | .un n a=> .un n (pt lt a)
 | .bi n a b=> .bi n (pt lt a) (pt lt b)
def CN(stack l:List ai)(h:stack.length+l.length<=100000):jA (stack++l) (l.length:Int)=some (l,stack):=by
 unfold jA cc
 have e:IntKind.i64.wrap (((stack++l).length:Int)-(l.length:Int))=(stack.length:Int):=by
  rw [jE,bB (by omega) (by omega)];omega
 rw [e,gU stack.length (stack++l).length rfl rfl (by simp) (iQ _)]
 simp only [bt,zn,Dw (iQ _),List.drop_length,iW]
 rw [cC (by simp;omega)]
 simp only [bt,iW]
 rw [gU (i:=0) 0 stack.length rfl rfl (mC _) (by simp)]
 simp
def tg(l:List aj)(h:l.length<=1000000):aU l=some l:=by
 unfold aU
 rw [cC (by simp;omega)]
 simp
def Nz(lt:List Tr)(n:aj)(a:Tr):pt lt (.un n a)= .un n (pt lt a):=rfl
def NC(lt:List Tr)(n:aj)(a b:Tr):pt lt (.bi n a b)= .bi n (pt lt a) (pt lt b):=rfl
def FZ(lt:List Tr)(hlt: ∀t∈lt,t.size<=1000)(t:Tr):t.wf->rx lt.length t-> ∀(s:Nat) (rest:List aj) (stack:List ai),stack.length+t.size<=50000->(pt lt t).size<=50000->
  dS (gZ (lt.map cU)) (t.flat s++rest) 0 stack=dS (gZ (lt.map cU)) rest 0 (stack++[cU (pt lt t)]):=by
 induction t with
 |lf n=>
  intro⟨Y,J,Z,h4⟩ hc s rest stack hl hp
  simp only [Tr.flat,Tr.size,xr,iW]at hl ⊢
  conv=>lhs;rw [dS]
  have e1:(dK n (-1) (-1)).Tag=n.Tag:=rfl
  rw [e1,li Y]
  have h0:=CN stack [] (by simp;omega)
  simp only [rD,pM]at h0
  simp only [bt]
  rw [h0]
  simp only [bt]
  have hv:gZ (lt.map cU) (dK n (-1) (-1)) []=some (cU (pt lt (.lf n)),0):=by
   unfold gZ pt
   simp only [e1]
   rcases RH Y with D|D
   ·rw [bo (by simp [D]),bo (by simp [D]),Mc];rfl
   ·rw [bD (by simp [D]),bD D]
    have V:=KT J D
    have hlt2:n.Col.toNat<lt.length:=by have:=hc D;omega
    have e2:(dK n (-1) (-1)).Col=n.Col:=rfl
    rw [e2,j5 n.Col.toNat (by omega),yp,qY hlt2]
    simp only [yn,bt,BE]
    rw [tg _ (by have:=hlt _ (Bd hlt2);simp only [cU,Tr.flat_len];omega)]
    rfl
  rw [hv]
  simp only [bt]
  rw [bo (by simp),cC (by simp;omega)]
  rfl
 |un n a ih=>
  intro⟨⟨Y,J,Z,h4⟩,ha⟩ hc s rest stack hl hp
  rw [Nz]at hp ⊢
  simp only [Tr.flat,Tr.size,jr]at hl hp ⊢
  rw [ih ha hc s _ stack (by omega) (by omega)]
  simp only [xr,iW]
  conv=>lhs;rw [dS]
  have e1:(dK n (((s+a.size:Nat):Int)-1) (-1)).Tag=n.Tag:=rfl
  rw [e1,li Y]
  have h0:=CN stack [cU (pt lt a)] (by simp;omega)
  simp only [bt]
  have e0:(([cU (pt lt a)]:List ai).length:Int)=((1:Nat):Int):=rfl
  rw [<-e0,h0]
  simp only [bt]
  have hv:gZ (lt.map cU) (dK n (((s+a.size:Nat):Int)-1) (-1)) [cU (pt lt a)]=some (cU (.un n (pt lt a)),0):=by
   unfold gZ
   rw [bo (by rw [e1];intro h;have:=PE Y (by simpa using h);omega)]
   unfold cU
   rw [Mb _ _ (by omega)]
   rfl
  rw [hv]
  simp only [bt]
  rw [bo (by simp),cC (by simp;omega)]
  rfl
 |bi n a b iha ihb=>
  intro⟨⟨Y,J,Z,h4⟩,ha,V⟩ ⟨hca,hcb⟩ s rest stack hl hp
  rw [NC]at hp ⊢
  simp only [Tr.flat,Tr.size,jr]at hl hp ⊢
  have hap:=a.size_pos
  rw [iha ha hca s _ stack (by omega) (by omega),ihb V hcb (s+a.size) _ (stack++[cU (pt lt a)]) (by simp;omega) (by omega)]
  simp only [xr,iW]
  conv=>lhs;rw [dS]
  have e1:(dK n (((s+a.size:Nat):Int)-1) (((s+a.size+b.size:Nat):Int)-1)).Tag=n.Tag:=rfl
  rw [e1,li Y]
  have h0:=CN stack [cU (pt lt a),cU (pt lt b)] (by simp;omega)
  simp only [bt]
  have e0:(([cU (pt lt a),cU (pt lt b)]:List ai).length:Int)=((2:Nat):Int):=rfl
  have e9:stack++[cU (pt lt a)]++[cU (pt lt b)]=stack++[cU (pt lt a),cU (pt lt b)]:=by simp
  rw [<-e0,e9,h0]
  simp only [bt]
  have hv:gZ (lt.map cU) (dK n (((s+a.size:Nat):Int)-1) (((s+a.size+b.size:Nat):Int)-1)) [cU (pt lt a),cU (pt lt b)]=some (cU (.bi n (pt lt a) (pt lt b)),0):=by
   unfold gZ
   rw [bo (by rw [e1];intro h;have:=PE Y (by simpa using h);omega)]
   unfold cU
   rw [Hl _ _ _ (by omega)]
   rfl
  rw [hv]
  simp only [bt]
  rw [bo (by simp),cC (by simp;omega)]
  rfl
def wt(lt:List Tr)(n:aj):Nat:=if n.Tag=2 then((lt[n.Col.toNat]?).getD default).size else 1
def Fw(lt:List Tr)(ns:List aj):Nat:=(ns.map (wt lt)).sum
def zz(lt:List Tr)(a b:List aj):Fw lt (a++b)=Fw lt a+Fw lt b:=by simp [Fw]
def Jh(lt:List Tr)(t:Tr):t.wf-> ∀s,Fw lt (t.flat s)=(pt lt t).size:=by
 induction t with
 |lf n=>
  intro _ s
  have e1:wt lt (dK n (-1) (-1))=wt lt n:=rfl
  have e2:Fw lt ((Tr.lf n).flat s)=wt lt n:=by
   simp only [Tr.flat,Fw,pn,vq,List.sum_cons,List.sum_nil,e1,tP]
  rw [e2]
  unfold wt pt
  by_cases h:n.Tag=2
  ·rw [bD h,bD h]
  ·rw [bo h,bo h];rfl
 |un n a ih=>
  intro⟨⟨Y,_⟩,ha⟩ s
  have J: ¬n.Tag=2:=fun h=>by have:=PE Y h;omega
  have e1:wt lt (dK n (((s+a.size:Nat):Int)-1) (-1))=1:=bo J
  simp only [Tr.flat,zz,ih ha,Nz,Tr.size]
  simp only [Fw,pn,vq,List.sum_cons,List.sum_nil,e1,tP]
 |bi n a b iha ihb=>
  intro⟨⟨Y,_⟩,ha,V⟩ s
  have J: ¬n.Tag=2:=fun h=>by have:=PE Y h;omega
  have e1:wt lt (dK n (((s+a.size:Nat):Int)-1) (((s+a.size+b.size:Nat):Int)-1))=1:=bo J
  simp only [Tr.flat,zz,iha ha,ihb V,NC,Tr.size]
  simp only [Fw,pn,vq,List.sum_cons,List.sum_nil,e1,tP]
def yh(e:ai)(lt:List Tr)(hlt: ∀t∈lt,t.size<=1000): ∀(ns:List aj) (n:Nat),(∀m∈ns,m.Tag=2->0<=m.Col/\m.Col<(lt.length:Int))->n+2000*ns.length<=100000000->
  km e (lt.map cU) ns (n:Int)=if 1000<n+Fw lt ns then some (⟨[]⟩,3)else(jd e (gZ (lt.map cU))).bind fun r=>some (r.1,r.2)
 |[],n,_,_=>by
  unfold km
  by_cases h:1000<n
  ·rw [bD (by simp;omega),bD (by simp [Fw];omega)]
  ·rw [bo (by simp;omega),bo (by simp [Fw];omega)]
 |m::ns,n,hc,hl=>by
  simp only [i6]at hl
  unfold km
  have hc' : ∀m∈ns,m.Tag=2->0<=m.Col/\m.Col<(lt.length:Int):=fun q hq=>hc q (mZ _ hq)
  have ew:Fw lt (m::ns)=wt lt m+Fw lt ns:=by simp [Fw]
  rw [ew]
  by_cases D:m.Tag=2
  ·obtain⟨h0,Y⟩:=hc m (lK ..) D
   have hlt2:m.Col.toNat<lt.length:=by omega
   have hs:=hlt _ (Bd hlt2)
   have e2:wt lt m=lt[m.Col.toNat].size:=by unfold wt;rw [bD D,qY hlt2];rfl
   rw [bD (by simp [D]),j5 m.Col.toNat (by omega),yp,qY hlt2]
   simp only [yn,bt,cU,Tr.flat_len]
   have hpos:=lt[m.Col.toNat].size_pos
   rw [bB (n:=(n:Int)+1) (by omega) (by omega),bB (n:=(lt[m.Col.toNat].size:Int)-1) (by omega) (by omega),bB (by omega) (by omega)]
   rw [show(n:Int)+1+((lt[m.Col.toNat].size:Int)-1)=((n+lt[m.Col.toNat].size:Nat):Int)from by omega]
   rw [yh e lt hlt ns _ hc' (by omega),e2,Nat.add_assoc]
  ·have e2:wt lt m=1:=bo D
   rw [bo (by simp [D]),bB (n:=(n:Int)+1) (by omega) (by omega),show(n:Int)+1=((n+1:Nat):Int)from by omega]
   rw [yh e lt hlt ns _ hc' (by omega),e2,Nat.add_assoc]
def Cl(e:ai)(l:List ai)(x:ai): ∀cs:List Int,pH e l cs x=if cs.all (fun c=>decide (c<(l.length:Int)))then km e l e.Nodes 0 else some (⟨[]⟩,2)
 |[]=>rfl
 |c::cs=>by
  unfold pH
  rw [Cl e l x cs]
  by_cases h:(l.length:Int)<=c
  ·rw [bD (by simpa using h),bo (by simp;omega)]
  ·rw [bo (by simpa using h)]
   have:c<(l.length:Int):=by omega
   simp [this]
def wQ: ∀(l:List ai) (n:Nat),(∀e∈l,e.Nodes.length<=100000)->n+100000*l.length<=10000000000->lj l (n:Int)=some (if l.all (fun e=>dX e.Nodes)then(((n+(l.map fun e=>e.Nodes.length).sum:Nat):Int),0)else(0,200))
 |[],n,_,_=>by simp [lj]
 |e::l,n,V,hl=>by
  simp only [i6]at hl
  have he:=V e (lK ..)
  unfold lj
  rw [jI e he]
  simp only [bt]
  cases hr:dX e.Nodes with
  |false=>simp [hr]
  |true=>
   simp only [fP]
   rw [bo (by decide),bB (by omega) (by omega),show(n:Int)+(e.Nodes.length:Int)=((n+e.Nodes.length:Nat):Int)from by omega]
   rw [wQ l _ (fun q hq=>V q (mZ _ hq)) (by omega)]
   simp [hr,Nat.add_assoc]
def px(hw:t.wf)(hs:t.size<=1000):dX (t.flat 0)=true:=by unfold dX;rw [np hw hs];rfl
def ES(e:ai)(he:e.Nodes.length<=10000)(lt:List Tr)(hln:lt.length<=1000)(hlt: ∀t∈lt,t.wf/\t.size<=1000): ∃p no,w9 e (lt.map cU)=some (p,no)/\
  (no=0-> ∃t,iF e.Nodes=some t/\rx lt.length t/\(pt lt t).size<=1000/\p=cU (pt lt t)):=by
 unfold w9
 rw [cC (by simp;omega)]
 simp only [bt]
 unfold oY
 have hn:=wQ ([e]++lt.map cU) 0 (by
  intro q hq
  rcases pY.1 hq with hq|hq
  ·simp only [jL]at hq;subst hq;omega
  ·obtain⟨t,D,rfl⟩:=rC.1 hq
   have:=(hlt t D).2
   simp only [cU,Tr.flat_len];omega) (by simp;omega)
 rw [show((0:Nat):Int)=0 from rfl]at hn
 rw [hn]
 simp only [bt]
 have hall:([e]++lt.map cU).all (fun e=>dX e.Nodes)=dX e.Nodes:=by
  rw [List.all_append]
  have:(lt.map cU).all (fun e=>dX e.Nodes)=true:=by
   rw [jK]
   intro q hq
   obtain⟨t,D,rfl⟩:=rC.1 hq
   exact px (hlt t D).1 (hlt t D).2
  rw [this];simp
 rw [hall]
 cases hr:dX e.Nodes with
 |false=>exact⟨_,200,rfl,fun h=>by cases h⟩
 |true=>
  simp only [fP]
  rw [bo (by decide)]
  obtain⟨cs,Y,J⟩:=xa e hr
  rw [Y]
  simp only [bt]
  rw [Cl]
  obtain⟨t,D⟩: ∃t,iF e.Nodes=some t:=by
   unfold dX at hr
   exact DA.1 hr
  obtain⟨hw,hN,hs⟩:=iR D
  by_cases hcs:cs.all (fun c=>decide (c<((lt.map cU).length:Int)))=true
  ·rw [bD hcs]
   have hcol: ∀m∈e.Nodes,m.Tag=2->0<=m.Col/\m.Col<(lt.length:Int):=by
    intro m hm htag
    have Z:=jK.1 hcs _ ((J m.Col).2 ⟨m,hm,htag,rfl⟩)
    rw [zl]at Z
    exact⟨(qv hw 0 (by rw [<-hN];exact hm) htag).1,of_decide_eq_true Z⟩
   have hcT:rx lt.length t:=by
    refine ry _ t hw 0 ?_
    unfold ot
    rw [jK]
    intro m hm
    rw [<-hN]at hm
    by_cases htag:m.Tag=2
    ·have:=(hcol m hm htag).2
     simp [htag,this]
    ·simp [htag]
   have h4:=yh e lt (fun t D=>(hlt t D).2) e.Nodes 0 hcol (by omega)
   rw [show((0:Nat):Int)=0 from rfl]at h4
   rw [h4,hN,Jh lt t hw]
   by_cases hsz:1000<0+(pt lt t).size
   ·rw [bD hsz];exact⟨_,3,rfl,fun h=>by cases h⟩
   ·rw [bo hsz]
    have h5:jd ⟨t.flat 0⟩ (gZ (lt.map cU))=some (cU (pt lt t),0):=by
     unfold jd
     have:=FZ lt (fun t D=>(hlt t D).2) t hw hcT 0 [] [] (by simp;omega) (by omega)
     rw [rD]at this
     rw [this]
     rfl
    have e9:e=⟨t.flat 0⟩:=by cases e;simp only at hN;rw [hN]
    rw [e9,h5]
    exact⟨_,0,rfl,fun _=>⟨t,by rw [e9]at D;exact D,hcT,by omega,rfl⟩⟩
  ·rw [bo hcs];exact⟨_,2,rfl,fun h=>by cases h⟩
def Qi(lt:List Tr)(hlt: ∀t∈lt,t.wf)(t:Tr):t.wf->rx lt.length t->(pt lt t).wf:=by
 induction t with
 |lf n=>
  intro hw hc
  unfold pt
  split
  ·rename_i D
   have hlt2:n.Col.toNat<lt.length:=by have:=hc D;have:=(KT hw.2.1 D).1;omega
   rw [qY hlt2]
   exact hlt _ (Bd hlt2)
  ·exact hw
 |un n a ih=>intro⟨h,ha⟩ hc;exact⟨h,ih ha hc⟩
 |bi n a b iha ihb=>intro⟨h,ha,V⟩ ⟨hca,hcb⟩;exact⟨h,iha ha hca,ihb V hcb⟩

def ev:Tr->List Tr
 | .lf n=>[.lf n]
 | .un n a=>[.un n a]
 | .bi n a b=>if n.Tag=22 then ev a++ev b else [.bi n a b]
def mb(n:aj)(a b:Tr):ev (.bi n a b)=if n.Tag=22 then ev a++ev b else [.bi n a b]:=rfl
def us(s:Nat)(x:Int):Int:=if 0<=x then x-(s:Int)else x
def Fn(s:Nat)(n:aj):aj:=dK n (us s n.L) (us s n.R)
def DG(k:Nat)(n:aj)(l r:Int):Fn k (dK n l r)=dK n (us k l) (us k r):=rfl
def zG{x:Int}(h:0<=x):us k x=x-(k:Int):=bD h
def On(k:Nat):us k (-1)= -1:=rfl
def Mg(t:Tr)(k:Nat): ∀s,(t.flat (s+k)).map (Fn k)=t.flat s:=by
 induction t with
 |lf m=>intro s;rfl
 |un m a ih=>
  intro s
  have:=a.size_pos
  simp only [Tr.flat,yW,ih,pn,vq,DG,On]
  rw [zG (by omega),show((s+k+a.size:Nat):Int)-1-(k:Int)=((s+a.size:Nat):Int)-1 from by omega]
 |bi m a b iha ihb=>
  intro s
  have:=a.size_pos
  have:=b.size_pos
  have V:=ihb (s+a.size)
  rw [show s+a.size+k=s+k+a.size from by omega]at V
  simp only [Tr.flat,yW,iha,V,pn,vq,DG]
  rw [zG (by omega),zG (by omega),show((s+k+a.size:Nat):Int)-1-(k:Int)=((s+a.size:Nat):Int)-1 from by omega,show((s+k+a.size+b.size:Nat):Int)-1-(k:Int)=((s+a.size+b.size:Nat):Int)-1 from by omega]
def Rw(n:aj):Prop:= -1000000<=n.L/\n.L<=1000000/\ -1000000<=n.R/\n.R<=1000000
def Iv(t:Tr): ∀s,s+t.size<=1000000-> ∀n∈t.flat s,Rw n:=by
 induction t with
 |lf m=>intro s _ n hn;simp only [Tr.flat,jL]at hn;subst hn;refine⟨?_,?_,?_,?_⟩<;>simp [dK]
 |un m a ih=>
  intro s hs n hn
  simp only [Tr.size]at hs
  simp only [Tr.flat,pY,jL]at hn
  rcases hn with hn|rfl
  ·exact ih s (by omega) n hn
  ·refine⟨?_,?_,?_,?_⟩<;>simp only [dK]<;>omega
 |bi m a b iha ihb=>
  intro s hs n hn
  simp only [Tr.size]at hs
  simp only [Tr.flat,pY,jL]at hn
  rcases hn with(hn|hn)|rfl
  ·exact iha s (by omega) n hn
  ·exact ihb _ (by omega) n hn
  ·refine⟨?_,?_,?_,?_⟩<;>simp only [dK]<;>omega
def A8(nx:List ai->List Int->Option (List ai))(out:List ai)(ho:out.length<=100000)(y:List Int)(k:Nat)(hk:k<=1000000)(xs:List aj)(V: ∀n∈xs,Rw n): ∀(tl:List aj) (i:Nat),xs.drop i=tl->
  iO nx out y (k:Int) tl i ⟨(xs.take i).map (Fn k)++xs.drop i⟩=nx (out++[⟨xs.map (Fn k)⟩]) y
 |[],i,h=>by
  have:=Bi.1 h
  unfold iO
  rw [cC (by simp;omega)]
  unfold ol
  rw [h,rD,nE this]
  rfl
 |e::tl,i,h=>by
  have hi:i<xs.length:=by
   rcases ll i xs.length with q|q
   ·exact q
   ·rw [Ct q]at h;cases h
  obtain⟨b1,b2,b3,b4⟩:=V xs[i] (Bd hi)
  have hd:xs.drop (i+1)=tl:=by rw [<-pX,h];rfl
  have ih:=A8 nx out ho y k hk xs V tl (i+1) hd
  have hs:=zd (Fn k) xs i hi
  have I:=zh (Fn k) xs i hi
  unfold iO
  dsimp only
  rw [I]
  simp only [bt]
  have hk2: ∀(m:aj),m.Tag=xs[i].Tag->m.Col=xs[i].Col->m.Value=xs[i].Value->m.R=xs[i].R->m.L=us k xs[i].L-> ∀zs:List aj,zs[i]? =some m->zs.set i (Fn k xs[i])=(xs.take (i+1)).map (Fn k)++xs.drop (i+1)->
    oj (k:Int) (iO nx out y (k:Int) tl) i ⟨zs⟩=nx (out++[⟨xs.map (Fn k)⟩]) y:=by
   intro m Y J Z h4 h5 zs hz hset
   unfold oj
   dsimp only
   rw [cw,hz]
   simp only [bt]
   by_cases hR:0<=m.R
   ·rw [bD (by simpa using hR)]
    have hm:({m with R:=IntKind.i64.wrap (m.R-(k:Int))}:aj)=Fn k xs[i]:=by
     rw [bB (by omega) (by omega)]
     obtain⟨mt,ml,mr,mc,mv⟩:=m
     simp only at Y J Z h4 h5 hR
     subst Y J Z h4 h5
     simp only [Fn,dK,zG hR]
    rw [hm,tR,hset]
    exact ih
   ·rw [bo (by simpa using hR)]
    have hm:m=Fn k xs[i]:=by
     obtain⟨mt,ml,mr,mc,mv⟩:=m
     simp only at Y J Z h4 h5 hR
     subst Y J Z h4 h5
     simp only [Fn,dK,us,bo hR]
    have e1:zs.set i (Fn k xs[i])=zs:=by
     rw [<-hm]
     apply BG
     intro j
     by_cases hj:j=i
     ·subst hj
      have hlt:=(qf.1 hz).1
      rw [List.getElem?_set_self hlt,hz]
     ·rw [List.getElem?_set_ne (by omega)]
    rw [<-e1,hset]
    exact ih
  have hzi:((xs.take i).map (Fn k)++xs.drop i)[i]? =some xs[i]:=by rw [<-cw];exact I
  have hlen:i<((xs.take i).map (Fn k)++xs.drop i).length:=(qf.1 hzi).1
  by_cases hL:0<=xs[i].L
  ·rw [bD (by simpa using hL),tR]
   refine hk2 ({xs[i]with L:=IntKind.i64.wrap (xs[i].L-(k:Int))}:aj) rfl rfl rfl rfl (by show IntKind.i64.wrap (xs[i].L-(k:Int))=_;rw [bB (by omega) (by omega),zG hL]) _ (by rw [List.getElem?_set_self hlen]) ?_
   rw [List.set_set];exact hs
  ·rw [bo (by simpa using hL)]
   exact hk2 xs[i] rfl rfl rfl rfl (by simp only [us,bo hL]) _ hzi hs
def vT(N:List aj)(all:List Int)(su:Nat×Tr):Prop:=su.2.wf/\su.1+su.2.size<=N.length/\(N.drop su.1).take su.2.size=su.2.flat su.1/\(all.drop su.1).take su.2.size=fl su.2 su.1
def DY(su:Nat×Tr):Int:=((su.1+su.2.size:Nat):Int)-1
def vh:Tr->Nat->aj
 | .lf n,_=>dK n (-1) (-1)
 | .un n a,s=>dK n (((s+a.size:Nat):Int)-1) (-1)
 | .bi n a b,s=>dK n (((s+a.size:Nat):Int)-1) (((s+a.size+b.size:Nat):Int)-1)
def Iu(t:Tr)(s:Nat):(t.flat s)[t.size-1]? =some (vh t s):=by
 cases t with
 |lf n=>rfl
 |un n a=>
  simp only [Tr.flat,Tr.size,vh]
  rw [qq (by rw [a.flat_len];omega),a.flat_len]
  simp
 |bi n a b=>
  simp only [Tr.flat,Tr.size,vh]
  rw [qq (by simp [a.flat_len,b.flat_len]),jE,a.flat_len,b.flat_len]
  simp
def D6{N xs:List α}{s j:Nat}(h:(N.drop s).take k=xs)(hj:j<k):N[s+j]? =xs[j]? :=by
 rw [<-h,wr hj,tW]
def D4{N:List aj}{all:List Int}{su:Nat×Tr}(h:vT N all su):cQ N (DY su)=some (vh su.2 su.1)/\cQ all (DY su)=some (su.1:Int):=by
 obtain⟨hw,hl,Y,J⟩:=h
 have hp:=su.2.size_pos
 have e:DY su=((su.1+(su.2.size-1):Nat):Int):=by unfold DY;omega
 rw [e,cw,cw,D6 Y (by omega),D6 J (by omega),Iu,Hq]
 exact⟨rfl,rfl⟩
def BJ{N xs ys zs:List α}{s a b:Nat}(h:(N.drop s).take k=xs++ys++zs)(I:xs.length=a)(hy:ys.length=b):(N.drop s).take a=xs/\(N.drop (s+a)).take b=ys:=by
 have hk:a+b<=k:=by
  have:=congrArg List.length h
  simp only [zm,jE,Bc]at this
  omega
 constructor
 ·have:=congrArg (List.take a) h
  rw [vt,u3 (by omega)]at this
  rw [this,jr,vy (by omega),nE (by omega)]
 ·have this:(((N.drop s).take k).drop a).take b=((xs++ys++zs).drop a).take b:=by rw [h]
  rw [zj,pX,vt,u3 (by omega)]at this
  rw [this,jr,Dw (by omega),Bj (by omega),iW,vy (by omega),nE (by omega)]
def Id{N:List aj}{all:List Int}{s:Nat}{n:aj}{a b:Tr}(h:vT N all (s,.bi n a b)):vT N all (s,a)/\vT N all (s+a.size,b):=by
 obtain⟨⟨_,ha,V⟩,hl,Y,J⟩:=h
 simp only [Tr.size,Tr.flat,fl]at hl Y J
 obtain⟨Z,h4⟩:=BJ Y (a.flat_len s) (b.flat_len _)
 obtain⟨h5,h6⟩:=BJ J (pS a s) (pS b _)
 exact⟨⟨ha,by show s+a.size<=_;omega,Z,h5⟩,⟨V,by show s+a.size+b.size<=_;omega,h4,h6⟩⟩
def Lm:List (Nat×Tr)->Nat
 |[]=>0
 |su::st=>su.2.size+Lm st
def JI(st:List (Nat×Tr)):List ai:=st.flatMap fun su=>(ev su.2).map cU
def K7{s:Nat}(hw:t.wf)(h:(vh t s).Tag≠22):ev t=[t]:=by
 cases t with
 |lf n=>rfl
 |un n a=>rfl
 |bi n a b=>rw [mb,bo (show¬n.Tag=22 from h)]
def K6{s:Nat}(hw:t.wf)(h:(vh t s).Tag=22): ∃n a b,t= .bi n a b/\n.Tag=22:=by
 cases t with
 |lf n=>
  have h:n.Tag=22:=h
  have Y:=hw.1
  rw [h]at Y;simp [pk]at Y
 |un n a=>
  have h:n.Tag=22:=h
  have Y:=hw.1.1
  rw [h]at Y;simp [pk]at Y
 |bi n a b=>exact⟨n,a,b,rfl,h⟩
def wn(N:List aj)(hN:N.length<=100000)(all:List Int)(b:Bool): ∀(fu:Nat) (st:List (Nat×Tr)) (out:List ai),(∀su∈st,vT N all su)->Lm st<fu->st.length<=100000->out.length+Lm st<=90000->
  gC ⟨N⟩ (all,b) fu out (st.map DY).reverse=some (out++JI st)
 |0,_,_,_,h,_,_=>by omega
 |fu+1,[],out,_,_,_,_=>by
  unfold gC
  simp [JI]
 |fu+1,su::st,out,hp,X,hs,ho=>by
  have hp0:=hp su (lK ..)
  obtain⟨Y,J⟩:=D4 hp0
  simp only [i6]at hs
  simp only [Lm]at X ho
  have hpos:=su.2.size_pos
  unfold gC
  have hlen:((su::st).map DY).reverse.length=st.length+1:=by simp
  rw [bD (by rw [hlen];simp<;>omega),hlen,bB (by omega) (by omega)]
  have e1:((su::st).map DY).reverse=(st.map DY).reverse++[DY su]:=by simp
  rw [e1,j5 st.length (by omega),qq (by simp)]
  simp only [List.length_reverse,zl,xp,Fs,bt]
  rw [gU (i:=0) 0 st.length rfl (by omega) (mC _) (by simp),tQ]
  rw [vy (by simp),nE (by simp)]
  simp only [bt]
  rw [Y]
  simp only [bt]
  have hp' : ∀q∈st,vT N all q:=fun q hq=>hp q (mZ _ hq)
  by_cases D:(vh su.2 su.1).Tag=22
  ·rw [bD (by simp [D])]
   obtain⟨s,u⟩:=su
   obtain⟨n,a,c,rfl,hn⟩:=K6 hp0.1 D
   obtain⟨hpa,hpb⟩:=Id hp0
   simp only [Tr.size]at X ho
   have e2:(st.map DY).reverse++[(vh (.bi n a c) s).R,(vh (.bi n a c) s).L]=(((s,a)::(s+a.size,c)::st).map DY).reverse:=by
    simp [vh,dK,DY]
   simp only at hN ⊢
   rw [cC (by simp;omega)]
   simp only [bt]
   unfold ol
   rw [e2,wn N hN all b fu ((s,a)::(s+a.size,c)::st) out (fun q hq=>by
    rcases fT.1 hq with rfl|hq
    ·exact hpa
    ·rcases fT.1 hq with rfl|hq
     ·exact hpb
     ·exact hp' q hq) (by simp only [Lm];omega) (by
      have: ∀l:List (Nat×Tr),l.length<=Lm l:=by
       intro l
       induction l with
       |nil=>exact iQ _
       |cons q l ih=>have:=q.2.size_pos;simp [Lm];omega
      have:=this st
      simp only [i6];omega) (by simp only [Lm];omega)]
   congr 2
   simp only [JI,List.flatMap_cons,mb,bD hn,yW,jr]
  ·rw [bo (by simpa using D),J]
   obtain⟨s,u⟩:=su
   obtain⟨hw,hl,Z,h4⟩:=hp0
   simp only at hl Z h4 hpos X ho ⊢
   simp only [bt]
   have e3:IntKind.i64.wrap (DY (s,u)+1)=((s+u.size:Nat):Int):=by
    unfold DY
    simp only
    rw [bB (by omega) (by omega)];omega
   rw [e3,gU s (s+u.size) rfl rfl (by omega) hl]
   have e4:(N.take (s+u.size)).drop s=u.flat s:=by rw [zj,Nat.add_sub_cancel_left];exact Z
   rw [e4]
   simp only [bt]
   rw [tg _ (by rw [u.flat_len];omega)]
   simp only [bt]
   have h5:=A8 (gC ⟨N⟩ (all,b) fu) out (by omega) (st.map DY).reverse s (by omega) (u.flat s) (Iv u s (by omega)) (u.flat s) 0 rfl
   simp only [List.take_zero,vq,iW,tQ]at h5
   rw [h5]
   have h6:=Mg u s 0
   rw [pL]at h6
   rw [h6,wn N hN all b fu st _ hp' (by omega) (by omega) (by simp;omega)]
   congr 1
   simp only [JI,List.flatMap_cons,K7 hw D,pn,vq,jr]
   rfl
def C9(e:ai)(hl:e.Nodes.length<=80000):uX e=some (match iF e.Nodes with
  |none=>[]
  |some t=>(ev t).map cU):=by
 unfold uX
 have X:=B8 e.Nodes [] (by simp [bT];omega)
 simp only [bT,EM,jU]at X
 unfold pG
 rw [show((0:Nat))=0 from rfl]at X
 rw [X]
 unfold iF
 cases hp:mO e.Nodes []with
 |none=>rfl
 |some st=>
  have hsz:=yH hp
  match st,hsz with
  |[],_=>rfl
  |[t],hsz=>
   simp only [bt,i6,pM,pL,decide_true,xq]
   have hw:=(qL hp (fun t D=>by cases D)).2 t (lK ..)
   have hfl:=(qL hp (fun t D=>by cases D)).1
   simp only [sE,bT,iW,pL]at hfl hsz
   simp only [bT,pL,hsz]
   by_cases Y:e.Nodes.length<=1000
   ·rw [bo (by simp [Y])]
    simp only [Y,decide_true,fP]
    have hpl:vT e.Nodes (EM [t]) (0,t):=by
     refine⟨hw,by show 0+t.size<=_;omega,?_,?_⟩
     ·simp only [tQ];rw [<-hfl,nE (by rw [t.flat_len];exact iQ _)]
     ·simp only [EM,bT,iW,tQ];rw [nE (by rw [pS];exact iQ _)]
    have J:=wn e.Nodes (by omega) (EM [t]) true fQ [(0,t)] [] (fun q hq=>by
     simp only [jL]at hq;subst hq;exact hpl) (by simp only [Lm];exact tU (yX _) (jk (by omega))) (by simp) (by simp [Lm];omega)
    have e2:([(0,t)].map DY).reverse=[((e.Nodes.length:Int)-1)]:=by
     simp only [pn,vq,List.reverse_cons,List.reverse_nil,iW,DY]
     rw [<-hsz];simp
    rw [e2]at J
    rw [bB (by omega) (by omega)]
    have e9:(⟨e.Nodes⟩:ai)=e:=rfl
    rw [e9]at J
    rw [J]
    simp [JI]
   ·rw [bD (by simp [Y])]
    simp only [Y,iB]
  |t::t2::st,_=>simp

def fA(v:bK)(l:List bK):bK:=l.foldl SM v
def HA(t:Tr):ev t≠[]:=by
 induction t with
 |lf n=>simp [ev]
 |un n a _=>simp [ev]
 |bi n a b iha ihb=>
  rw [mb]
  split
  ·simp [iha]
  ·simp
def Ln:aj:=⟨22,-1,-1,0,zV⟩
def iP(a:Tr)(l:List Tr):Tr:=l.foldl (fun x y=> .bi Ln x y) a
def pP(l:List Tr):Nat:=(l.map Tr.size).sum
def mg(a:Tr)(l:List Tr):pP (a::l)=a.size+pP l:=by simp [pP]
def DL(a b:List Tr):pP (a++b)=pP a+pP b:=by simp [pP]
def Cf(t:Tr):pP (ev t)+(ev t).length=t.size+1:=by
 induction t with
 |lf n=>rfl
 |un n a _=>simp [ev,pP]
 |bi n a b iha ihb=>
  rw [mb]
  split
  ·rw [DL,jE];simp only [Tr.size];omega
  ·simp [pP]
def qn: ∀(l:List Tr) (a:Tr),(iP a l).size=a.size+pP l+l.length
 |[],a=>rfl
 |y::l,a=>by
  show(iP (.bi Ln a y) l).size=_
  rw [qn l,mg]
  simp only [Tr.size,i6];omega
def Oz:Ox 2 Ln:=⟨rfl,rfl,rfl,rfl⟩
def HB: ∀(l:List Tr) (a:Tr),a.wf->(∀u∈l,u.wf)->(iP a l).wf
 |[],_,h,_=>h
 |y::l,a,h,k=>HB l (.bi Ln a y) ⟨Oz,h,k y (lK ..)⟩ fun u hu=>k u (mZ _ hu)
def Ch: ∀(l:List Tr) (a:Tr),(∀u∈l,ev u=[u])->ev (iP a l)=ev a++l
 |[],a,_=>by simp [iP]
 |y::l,a,k=>by
  show ev (iP (.bi Ln a y) l)=_
  rw [Ch l _ fun u hu=>k u (mZ _ hu),mb,bD (show Ln.Tag=22 from rfl),k y (lK ..)]
  simp
def Cp: ∀(l:List Tr) (a:Tr),(iP a l).size<=50000->pI (l.map cU) (cU a)=some (cU (iP a l),0)
 |[],a,_=>rfl
 |y::l,a,h=>by
  simp only [pn]
  unfold pI
  have Y:(iP (.bi Ln a y) l).size<=50000:=h
  rw [qn]at Y
  simp only [Tr.size]at Y
  have J:iT ⟨22,0,0,0,⟨0,0,0,[]⟩⟩ [cU a,cU y]=some (cU (.bi Ln a y)):=Hl ⟨22,0,0,0,⟨0,0,0,[]⟩⟩ a y (by omega)
  rw [J]
  exact Cp l (.bi Ln a y) h
def yO(a:Tr)(l:List Tr)(hw: ∀u∈a::l,u.wf/\u.size<=1000)(hs:pP (a::l)+l.length<=1000):om ((a::l).map cU)=some (cU (iP a l),0):=by
 unfold om oY
 have hll: ∀l:List Tr,l.length<=pP l:=by
  intro l
  induction l with
  |nil=>exact iQ _
  |cons q l ih=>have:=q.size_pos;rw [mg];simp;omega
 have hll2:=hll (a::l)
 have hn:=wQ ((a::l).map cU) 0 (by
  intro q hq
  obtain⟨t,D,rfl⟩:=rC.1 hq
  have:=(hw t D).2
  simp only [cU,Tr.flat_len];omega) (by rw [zl];omega)
 rw [show((0:Nat):Int)=0 from rfl]at hn
 rw [hn]
 have hall:((a::l).map cU).all (fun e=>dX e.Nodes)=true:=by
  rw [jK]
  intro q hq
  obtain⟨t,D,rfl⟩:=rC.1 hq
  exact px (hw t D).1 (hw t D).2
 have hsum:(((a::l).map cU).map fun e=>e.Nodes.length).sum=pP (a::l):=by
  rw [yl]
  unfold pP
  congr 1
  apply Bg
  intro t _
  simp only [Function.comp_apply,cU,Tr.flat_len]
 rw [hall,hsum]
 simp only [fP,bt]
 rw [bo (by decide),bo (by simp;omega)]
 rw [zl,bB (n:=((0+pP (a::l):Nat):Int)+((a::l).length:Int)) (by omega) (by omega),bB (by omega) (by omega)]
 rw [bo (by simp only [i6,Cr];omega)]
 simp only [pn]
 rw [show cQ (cU a::l.map cU) 0=some (cU a)from rfl]
 simp only [bt]
 have hsa:=(hw a (lK ..)).2
 rw [tg _ (by simp only [cU,Tr.flat_len];omega)]
 simp only [bt]
 rw [show(1:Int)=((1:Nat):Int)from rfl,gU 1 (cU a::l.map cU).length rfl (by simp) (by simp) (iQ _)]
 simp only [zn,bt]
 rw [mg]at hs
 exact Cp l a (by rw [qn];omega)
def qZ:Tr->Bool
 | .lf n=>Fp n
 | .un n a=>qZ a||Fp n
 | .bi n a b=>qZ a||qZ b||Fp n
def EN(t:Tr): ∀s,(t.flat s).any Fp=qZ t:=by
 induction t with
 |lf n=>intro s;simp only [Tr.flat,zt,List.any_nil,Bool.or_false,qZ];rfl
 |un n a ih=>intro s;simp only [Tr.flat,List.any_append,ih,zt,List.any_nil,Bool.or_false,qZ];rfl
 |bi n a b iha ihb=>intro s;simp only [Tr.flat,List.any_append,iha,ihb,zt,List.any_nil,Bool.or_false,qZ];rfl
def wC(hw:t.wf)(hs:t.size<=1000):j9 (cU t)=some (!(qZ t)):=by
 rw [C8 _ (by simp only [cU,Tr.flat_len];omega)]
 unfold cU
 rw [px hw hs,EN];rfl
def Cg(t:Tr):(ev t).all (fun u=> !(qZ u))= !(qZ t):=by
 induction t with
 |lf n=>simp [ev]
 |un n a _=>simp [ev]
 |bi n a b iha ihb=>
  rw [mb]
  split
  ·rename_i hn
   rw [List.all_append,iha,ihb]
   have:Fp n=false:=by unfold Fp;rw [hn];rfl
   simp [qZ,this]
  ·simp

def K0{a b:Bool}(h:a=true↔b=true):a=b:=by cases a<;>cases b<;>simp_all
def NH: ∀{l m:List Int},l.Pairwise (· < ·)->m.Pairwise (· < ·)->(∀x,x∈l↔x∈m)->l=m
 |[],[],_,_,_=>rfl
 |[],y::m,_,_,h=>by have:=(h y).2 (lK ..);cases this
 |x::l,[],_,_,h=>by have:=(h x).1 (lK ..);cases this
 |x::l,y::m,hl,hm,h=>by
  rw [Bf]at hl hm
  have hxy:x=y:=by
   have Y:=(h x).1 (lK ..)
   have J:=(h y).2 (lK ..)
   rcases fT.1 Y with Y|Y
   ·exact Y
   ·rcases fT.1 J with J|J
    ·exact J.symm
    ·have:=hm.1 x Y;have:=hl.1 y J;omega
  subst hxy
  congr 1
  refine NH hl.2 hm.2 fun z=>?_
  constructor
  ·intro hz
   have Y:=(h z).1 (mZ _ hz)
   rcases fT.1 Y with rfl|Y
   ·have:=hl.1 z hz;omega
   ·exact Y
  ·intro hz
   have Y:=(h z).2 (mZ _ hz)
   rcases fT.1 Y with rfl|Y
   ·have:=hm.1 z hz;omega
   ·exact Y
def Dc: ∀(p:Int) (l:List Int),(p::l).Pairwise (· <= ·)->(p::tK p l).Pairwise (· < ·)
 |p,[],_=>by rw [AN];simp
 |p,x::t,h=>by
  rw [Bf,Bf]at h
  have hpx:=h.1 x (lK ..)
  by_cases I:x=p
  ·rw [x9 I]
   subst I
   exact Dc x t (Bf.2 h.2)
  ·rw [Db I]
   have ih:=Dc x t (Bf.2 h.2)
   refine Bf.2 ⟨fun z hz=>?_,ih⟩
   rcases fT.1 hz with rfl|hz
   ·omega
   ·have:=(Bf.1 ih).1 z hz;omega
def KQ(l:List Int)(h:l.Pairwise (· <= ·)):(vo l).Pairwise (· < ·):=by
 cases l with
 |nil=>exact List.Pairwise.nil
 |cons x t=>exact Dc x t h
def Jr(l:List Int):(sortI l).Pairwise (· <= ·):=by
 unfold sortI
 have:=List.pairwise_mergeSort (le:=fun x y:Int=>decide (x<=y)) (fun a b c Y J=>by simp at*;omega) (fun a b=>by simp;omega) l
 exact this.imp fun h=>by simpa using h
def GB(ns:List aj):List Int:=(ns.filter fun n=>n.Tag==2).map (·.Col)
def uH: ∀(ns:List aj) (out:List Int),out.length+ns.length<=8000->ii ns out=some (vo (sortI (out++GB ns)))
 |[],out,h=>by
  unfold ii;rw [uI]
  rw [bD (by simp at h;omega)]
  simp only [bt]
  rw [wi _ (by rw [sk];simpa using h)]
  simp [GB]
 |n::ns,out,h=>by
  simp only [i6]at h
  unfold ii
  by_cases D:n.Tag=2
  ·rw [bD (by simp [D]),cC (by simp;omega)]
   simp only [bt]
   rw [uH ns (out++[n.Col]) (by simp;omega)]
   simp [GB,D]
  ·rw [bo (by simp [D]),uH ns out (by omega)]
   simp [GB,D]
def JX(ns:List aj)(c:Int):c∈GB ns↔ ∃n∈ns,n.Tag=2/\n.Col=c:=by
 unfold GB
 rw [rC]
 constructor
 ·rintro⟨n,hn,rfl⟩
  rw [vc]at hn
  exact⟨n,hn.1,by simpa using hn.2,rfl⟩
 ·rintro⟨n,hn,D,rfl⟩
  exact⟨n,vc.2 ⟨hn,by simp [D]⟩,rfl⟩
def CV(ns:List aj)(i:Nat):Bool:=ns.any fun n=>n.Tag==2&&n.Col==(i:Int)
def D1(nx:Nat->List Int->Option (List Int))(i:Nat)(out:List Int)(ho:out.length<=1000): ∀ns:List aj,pg nx i ns out=nx (i+1) (if CV ns i then out++[(i:Int)]else out)
 |[]=>rfl
 |n::ns=>by
  unfold pg rQ
  by_cases h:(n.Tag==2&&n.Col==(i:Int))=true
  ·rw [bD h,cC (by simp;omega)]
   simp [CV,h]
  ·rw [bo h,D1 nx i out ho ns]
   rw [wp]at h
   simp [CV,h]
def G0(ns:List aj):Nat->Nat->List Int
 |0,_=>[]
 |k+1,i=>(if CV ns i then [(i:Int)]else [])++G0 ns k (i+1)
def wI(e:ai): ∀(k i:Nat) (out:List Int),out.length+k<=100->mN e k i out=some (out++G0 e.Nodes k i)
 |0,i,out,_=>by simp [mN,G0]
 |k+1,i,out,h=>by
  unfold mN
  rw [D1 _ i out (by omega),wI e k (i+1) _ (by split<;>(try simp)<;>omega)]
  simp only [G0]
  split<;>simp
def FC(ns:List aj): ∀(k i:Nat),(G0 ns k i).Pairwise (· < ·)/\ ∀x∈G0 ns k i,(i:Int)<=x
 |0,i=>⟨List.Pairwise.nil,fun x I=>by cases I⟩
 |k+1,i=>by
  obtain⟨Y,J⟩:=FC ns k (i+1)
  simp only [G0]
  split
  ·refine⟨Bf.2 ⟨fun x I=>by have:=J x I;omega,Y⟩,fun x I=>?_⟩
   rcases fT.1 I with rfl|I
   ·omega
   ·have:=J x I;omega
  ·exact⟨Y,fun x I=>by have:=J x I;omega⟩
def wS(ns:List aj): ∀(k i:Nat) (x:Int),x∈G0 ns k i↔ ∃j:Nat,i<=j/\j<i+k/\x=(j:Int)/\CV ns j=true
 |0,i,x=>by simp [G0];intro j Y J;omega
 |k+1,i,x=>by
  simp only [G0,pY,wS ns k (i+1)]
  constructor
  ·rintro(h|⟨j,Y,J,Z,h4⟩)
   ·split at h
    ·rename_i hc
     simp only [jL]at h
     exact⟨i,iQ _,by omega,h,hc⟩
    ·cases h
   ·exact⟨j,by omega,by omega,Z,h4⟩
  ·rintro⟨j,Y,J,Z,h4⟩
   by_cases hj:j=i
   ·subst hj;left;rw [bD h4,Z];simp
   ·right;exact⟨j,by omega,by omega,Z,h4⟩
def IF(e:ai)(D:iF e.Nodes=some t): ∃cs,kb e=some cs/\lS e=some cs:=by
 obtain⟨hw,hN,hs⟩:=iR D
 have hr:dX e.Nodes=true:=by unfold dX;rw [D];rfl
 have hl:=qD hr
 refine⟨vo (sortI (GB e.Nodes)),?_,?_⟩
 ·unfold kb
  rw [jI e (by omega),hr]
  have:=uH e.Nodes [] (by simp;omega)
  simpa using this
 ·unfold lS
  rw [wI e 16 0 [] (by simp),iW]
  congr 1
  refine NH (FC _ 16 0).1 (KQ _ (Jr _)) fun x=>?_
  rw [BX,BW,JX,wS]
  constructor
  ·rintro⟨j,_,_,rfl,hc⟩
   unfold CV at hc
   obtain⟨n,hn,hc⟩:=vv.1 hc
   simp at hc
   exact⟨n,hn,hc.1,hc.2⟩
  ·rintro⟨n,hn,htag,rfl⟩
   have V:=qv hw 0 (by rw [<-hN];exact hn) htag
   refine⟨n.Col.toNat,by omega,by omega,by omega,?_⟩
   unfold CV
   exact vv.2 ⟨n,hn,by simp [htag];omega⟩
end Go.Proofs.YtbmmihfagmchaaaGreat

