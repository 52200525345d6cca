/- cP of this claim: L10, L11, L12, L13, L14. -/
import Derived.Test.YtbmmihfagmchaaaGreatRbQ1
set_option linter.all false
namespace Go.Proofs.YtbmmihfagmchaaaGreat
open Go

def tabs(ns:List aa):List Int:=(ns.filter fun n=>n.Op==1).map (·.Table)
variable{n:aa}
def tk: ∀(ns:List aa) (out:List Int),out.length+ns.length<=5000->iJ ns out=some (vo (sortI (out++tabs ns)))
 |[],out,h=>by
  unfold iJ;rw [uI]
  rw [bD (by simp at h;omega)]
  simp only [bt]
  rw [wi _ (by rw [sk];simp at h;omega)]
  simp [tabs]
 |n::ns,out,h=>by
  simp only [i6]at h
  unfold iJ
  by_cases Y:n.Op=1
  ·rw [bD (by simp [Y]),cC (by simp;omega)]
   simp only [bt]
   rw [tk ns _ (by simp;omega)]
   simp [tabs,Y]
  ·rw [bo (by simpa using Y),tk ns _ (by omega)]
   simp [tabs,Y]
variable{a b:aw}
def Jp{a b k:List Int}(hs:ck n)(Y:n.Op=1)(h:bc n a b=some (k,true)):0<=n.Table/\n.Table<=3:=by
 obtain⟨k1,o,k',g1,g2,_⟩:=BO default n a b hs Y
 rw [h]at g2
 injection g2 with g2
 injection g2 with _ g2
 subst g2
 unfold fc at g1
 split at g1
 ·rename_i hc
  simp only [iX,Cr]at hc
  omega
 ·simp at g1
def gV(l:aw)(e p:Nat):aw:=⟨((l.Nodes.take (p+1)).drop e).map (oL (-(e:Int)))⟩
variable{e:Nat}{l:aw}{p:Nat}
def oQ(hp:p<l.Nodes.length):(gV l e p).Nodes.length=p+1-e:=by
 unfold gV;simp;omega
def nW(h:eu l)(e p:Nat):eu (gV l e p):=
 CS fun n hn=>h n (List.mem_of_mem_take (List.mem_of_mem_drop hn))
variable{x:Int}
def GP(hS:eu l)(hl:l.Nodes.length<=60)(hp:p<l.Nodes.length)(he:e<=100): ∀(tl:List aa) (i fu:Nat) (out:aw),(l.Nodes.take (p+1)).drop i=tl->i+tl.length=p+1->tl.length<fu->out.Nodes.length<=i->lg l (p:Int) (e:Int) fu (i:Int) out=some (⟨out.Nodes++tl.map (oL (-(e:Int)))⟩,0):=by
 intro tl
 induction tl with
 |nil=>
  intro i fu out hd hi X _
  obtain⟨fu,rfl⟩: ∃k,fu=k+1:=⟨fu-1,by omega⟩
  simp only [pM,tP]at hi
  rw [lg,bo (by simp;omega)]
  simp
 |cons x tl ih=>
  intro i fu out hd hi X ho
  simp only [i6]at hi X
  obtain⟨fu,rfl⟩: ∃k,fu=k+1:=⟨fu-1,by omega⟩
  obtain⟨Y,J,Z⟩:=jl hd
  have h1' :cQ l.Nodes (i:Int)=some x:=by
   rw [cw]at Y ⊢
   rw [wr (by omega)]at Y
   exact Y
  have I:ck x:=hS x (by rw [cw]at h1';exact rZ h1')
  rw [lg,bD (by simp;omega),h1']
  simp only [bt]
  rw [bB (n:=(0:Int)-(e:Int)) (by omega) (by omega),pR I]
  simp only [bt]
  rw [cC (by simp;omega),bB (by omega) (by omega),show((i:Int)+1)=((i+1:Nat):Int)from by omega]
  simp only [bt]
  rw [ih (i+1) fu _ Z (by omega) (by omega) (by simp;omega)]
  simp
def xJ(hl:l.Nodes.length<=60){s:Nat}(hp:p<l.Nodes.length)(hs:e+s=p+1): ∀(tl:List aa) (i fu:Nat) (out:aw),(l.Nodes.take (p+1)).drop i=tl->i+tl.length=p+1->tl.length<fu->out.Nodes.length<=i->mL l (p:Int) (s:Int) fu (i:Int) out=some ⟨out.Nodes++tl.map (oL (-(e:Int)))⟩:=by
 intro tl
 induction tl with
 |nil=>
  intro i fu out hd hi X _
  obtain⟨fu,rfl⟩: ∃k,fu=k+1:=⟨fu-1,by omega⟩
  simp only [pM,tP]at hi
  rw [mL,bo (by simp;omega)]
  simp
 |cons x tl ih=>
  intro i fu out hd hi X ho
  simp only [i6]at hi X
  obtain⟨fu,rfl⟩: ∃k,fu=k+1:=⟨fu-1,by omega⟩
  obtain⟨Y,J,Z⟩:=jl hd
  have h1' :cQ l.Nodes (i:Int)=some x:=by
   rw [cw]at Y ⊢
   rw [wr (by omega)]at Y
   exact Y
  rw [mL,bD (by simp;omega),h1']
  simp only [bt]
  rw [bB (n:=(p:Int)-(s:Int)) (by omega) (by omega),bB (n:=(p:Int)-(s:Int)+1) (by omega) (by omega),bB (n:=(0:Int)-_) (by omega) (by omega),show(0:Int)-((p:Int)-(s:Int)+1)= -(e:Int)from by omega,Bp]
  simp only [bt]
  rw [cC (by simp;omega),bB (by omega) (by omega),show((i:Int)+1)=((i+1:Nat):Int)from by omega]
  simp only [bt]
  rw [ih (i+1) fu _ Z (by omega) (by omega) (by simp;omega)]
  simp
def y9(first:List Int)(p:Nat):Nat:=p+1-vG first p
variable{j:Nat}
def LQ(hS:eu l){ob:aq}{j:Int}(uu:lT l=some (ob,j,true))(hL:Dp l ob)(hp:p<l.Nodes.length):lU l (p:Int)=some (gV l (y9 ob.first p) p,0)/\Ad l (p:Int)=some (gV l (y9 ob.first p) p):=by
 have hle:=hL.le
 obtain⟨N0,X⟩:=hL.inv.at hp
 have Y:=N0.pos
 have J:=N0.le
 have V:(y9 ob.first p:Int)=(p:Int)+1-(vG ob.first p:Int):=by unfold y9;omega
 have hb2:y9 ob.first p+vG ob.first p=p+1:=by unfold y9;omega
 have hfi:cQ ob.first (p:Int)=some (y9 ob.first p:Int):=by rw [cw,X,V]
 constructor
 ·unfold lU
  rw [uu]
  simp only [bt,nC,kP,iB]
  rw [bo (by simp;omega),hfi]
  simp only [bt]
  rw [GP hS hle hp (by omega) ((l.Nodes.take (p+1)).drop (y9 ob.first p)) (y9 ob.first p) fQ _ rfl (by simp;omega) (n8 (by simp;omega)) (by simp)]
  rfl
 ·unfold Ad
  have hs:gx l (p:Int)=some (vG ob.first p:Int):=N0.size fQ (n8 (by omega))
  rw [hs]
  simp only [bt]
  rw [bB (n:=(p:Int)-_) (by omega) (by omega),bB (by omega) (by omega),show(p:Int)-(vG ob.first p:Int)+1=(y9 ob.first p:Int)from by omega]
  rw [xJ hle hp hb2 ((l.Nodes.take (p+1)).drop (y9 ob.first p)) (y9 ob.first p) fQ _ rfl (by simp;omega) (n8 (by simp;omega)) (by simp)]
  rfl
def El(hS:eu l){ob:aq}(hL:Dp l ob): ∀n∈l.Nodes,Dr n/\(n.Op=1->0<=n.Table/\n.Table<=3):=by
 intro n hn
 obtain⟨j,hj,rfl⟩:=zu.1 hn
 obtain⟨m,F⟩:=AG hL.inv hL.le hj
 have hm:m=l.Nodes[j]:=by
  have:=F.node
  rw [cw,qY hj]at this
  injection this with this
  exact this.symm
 subst hm
 exact⟨KJ (hS _ hn) F.op F.own F.kinds,fun Y=>Jp (hS _ hn) Y F.kinds⟩

def uG(a:List Int):ir a a=some true:=by
 unfold ir
 rw [bo (by simp)]
 have key: ∀(tl:List Int) (i:Nat),a.drop i=tl->fZ a tl i=some true:=by
  intro tl
  induction tl with
  |nil=>intro i _;rfl
  |cons x tl ih=>
   intro i h
   obtain⟨Y,_,Z⟩:=jl h
   unfold fZ
   rw [Y]
   simp only [bt,bne_self_eq_false,kP,iB]
   exact ih (i+1) Z
 exact key a 0 rfl
def EB(n:aa)(d:Int): ∀(fu:Nat) (ok:Bool) (i:Int),dJ (oL d n) fu ok i=dJ n fu ok i:=by
 intro fu
 induction fu with
 |zero=>intros;rfl
 |succ fu ih=>intros;simp only [dJ,ih];rfl
def Ex(n:aa)(d:Int)(a:List Int): ∀(fu:Nat) (out:List Int) (ok:Bool) (i:Int),dc (oL d n) a fu out ok i=dc n a fu out ok i:=by
 intro fu
 induction fu with
 |zero=>intros;rfl
 |succ fu ih=>intros;simp only [dc,ih];rfl
def Ez(n:aa)(d:Int)(a:List Int): ∀(fu:Nat) (out:List Int) (i:Int),du (oL d n) a fu out i=du n a fu out i:=by
 intro fu
 induction fu with
 |zero=>intros;rfl
 |succ fu ih=>intros;simp only [du,ih,Ex];rfl
def Ev(n:aa)(d:Int)(a:List Int): ∀(fu:Nat) (out:List Int) (ok:Bool) (i:Int),cH (oL d n) a fu out ok i=cH n a fu out ok i:=by
 intro fu
 induction fu with
 |zero=>intros;rfl
 |succ fu ih=>intros;simp only [cH,ih];rfl
def Et(n:aa)(d:Int)(a:List Int): ∀(fu:Nat) (ok:Bool) (i:Int),dI (oL d n) a fu ok i=dI n a fu ok i:=by
 intro fu
 induction fu with
 |zero=>intros;rfl
 |succ fu ih=>intros;simp only [dI,ih];rfl
def Es(n:aa)(d:Int)(a b:List Int):bc (oL d n) a b=bc n a b:=by
 unfold bc
 simp only [EB,Ez,Ev,Et]
 rfl
def LR(n:aa)(d:Int):vW (oL d n)=vW n:=rfl
variable{ks:Nat->List Int}{sz:Nat->Nat}
section
abbrev Ds(l:aw)(sz:Nat->Nat)(ks:Nat->List Int):Prop:= ∀j,j<l.Nodes.length-> ∃n,uD l sz ks j n
def Qk(tD:Ds l sz ks): ∀(p:Nat),p<l.Nodes.length-> ∀q,p+1-sz p<=q->q<=p->p+1-sz p<=q+1-sz q:=by
 intro p
 induction p using Nat.strongRecOn with
 |ind p ih=>
  intro hp q Y J
  by_cases hq:q=p
  ·subst hq;exact iQ _
  obtain⟨n,F⟩:=tD p hp
  by_cases c1:n.Op=1
  ·obtain⟨_,_,e⟩:=F.lf c1
   omega
  by_cases c27:n.Op=2\/n.Op=7
  ·obtain⟨a,b,c,d,e⟩:=F.bi c27
   obtain⟨nA,FA⟩:=tD (p-1-sz (p-1)) (by omega)
   have hpA:=FA.pos
   have hlA:=FA.le
   by_cases hB:p-1+1-sz (p-1)<=q
   ·have:=ih (p-1) (by omega) (by omega) q hB (by omega)
    omega
   ·have:=ih (p-1-sz (p-1)) (by omega) (by omega) q (by omega) (by omega)
    omega
  ·obtain⟨a,b,c,d⟩:=F.un c1 (fun h=>c27 (.inl h)) (fun h=>c27 (.inr h))
   have:=ih (p-1) (by omega) (by omega) q (by omega) (by omega)
   omega
def J8(tD:Ds l sz ks){i:Nat}(hp:p<l.Nodes.length)(Y:p+1-sz p<=i)(J:i<=p)(F:uD l sz ks i n):(n.A= -1\/((p+1-sz p:Nat):Int)<=n.A/\n.A<(i:Int))/\(n.B= -1\/((p+1-sz p:Nat):Int)<=n.B/\n.B<(i:Int)):=by
 have hn:=Qk tD p hp i Y J
 by_cases c1:n.Op=1
 ·obtain⟨a,b,_⟩:=F.lf c1
  exact⟨.inl a,.inl b⟩
 by_cases c27:n.Op=2\/n.Op=7
 ·obtain⟨a,b,c,d,e⟩:=F.bi c27
  obtain⟨nA,FA⟩:=tD (i-1-sz (i-1)) (by omega)
  have hpA:=FA.pos
  have hlA:=FA.le
  exact⟨.inr (by omega),.inr (by omega)⟩
 ·obtain⟨a,b,c,d⟩:=F.un c1 (fun h=>c27 (.inl h)) (fun h=>c27 (.inr h))
  obtain⟨nA,FA⟩:=tD (i-1) (by omega)
  have hpA:=FA.pos
  exact⟨.inr (by omega),.inl c⟩
def p7{d:Int}(h:x= -1):tG d x= -1:=by unfold tG;rw [bo (by omega),h]
def xC{e:Int}(h:0<=e)(J:e<=x)(Z:x<=100000):tG (-e) x=x-e:=by
 unfold tG
 rw [bD (by omega),bB (by omega) (by omega)]
 omega
def FX(tD:Ds l sz ks)(hl:l.Nodes.length<=60)(hp:p<l.Nodes.length)(hs:sz p<=p+1):Ds (gV l (p+1-sz p) p) (fun j=>sz (p+1-sz p+j)) (fun j=>ks (p+1-sz p+j)):=by
 obtain⟨e,he⟩: ∃e,e=p+1-sz p:=⟨_,rfl⟩
 rw [<-he]
 intro j hj
 rw [oQ hp]at hj
 obtain⟨n,F⟩:=tD (e+j) (by omega)
 have hin:=J8 tD hp (i:=e+j) (by omega) (by omega) F
 have hnest:=Qk tD p hp (e+j) (by omega) (by omega)
 rw [<-he]at hin hnest
 obtain⟨hA,hB⟩:=hin
 refine⟨oL (-(e:Int)) n,⟨?_,F.op,by rw [LR];exact F.own,fun c1=>?_,fun c1 c2 c7=>?_,fun c27=>?_,?_,fun c8=>?_,F.len,F.pos,?_⟩⟩
 ·have Y:=F.node
  rw [cw]at Y ⊢
  unfold gV
  simp only
  rw [yp,tW,wr (by omega),Y]
  rfl
 ·obtain⟨a,b,c⟩:=F.lf c1
  exact⟨p7 a,p7 b,c⟩
 ·obtain⟨a,b,c,d⟩:=F.un c1 c2 c7
  obtain⟨nA,FA⟩:=tD (e+j-1) (by omega)
  have hpA:=FA.pos
  have eA:tG (-(e:Int)) n.A=n.A-(e:Int):=xC (by omega) (by omega) (by omega)
  refine⟨by omega,?_,p7 c,?_⟩
  ·show tG (-(e:Int)) n.A=_
   rw [eA];omega
  ·show sz (e+j)=sz (e+(j-1))+1
   rw [d,show e+j-1=e+(j-1)from by omega]
 ·obtain⟨a,b,c,d,g⟩:=F.bi c27
  obtain⟨nA,FA⟩:=tD (e+j-1-sz (e+j-1)) (by omega)
  have hpA:=FA.pos
  have eA:tG (-(e:Int)) n.A=n.A-(e:Int):=xC (by omega) (by omega) (by omega)
  have eB:tG (-(e:Int)) n.B=n.B-(e:Int):=xC (by omega) (by omega) (by omega)
  have ej:e+(j-1)=e+j-1:=by omega
  refine⟨by omega,?_,?_,?_,?_⟩
  ·show tG (-(e:Int)) n.B=_
   rw [eB];omega
  ·show sz (e+(j-1))<j
   rw [ej];omega
  ·show tG (-(e:Int)) n.A=(j:Int)-1-(sz (e+(j-1)):Int)
   rw [eA,ej];omega
  ·show sz (e+j)=sz (e+(j-1-sz (e+(j-1))))+sz (e+(j-1))+1
   rw [ej,g,show e+(j-1-sz (e+j-1))=e+j-1-sz (e+j-1)from by omega]
 ·rw [Es]
  have key: ∀x:Int,(x= -1\/(e:Int)<=x/\x<((e+j:Nat):Int))->(if tG (-(e:Int)) x<0 then([]:List Int)else ks (e+(tG (-(e:Int)) x).toNat))=if x<0 then []else ks x.toNat:=by
   intro x I
   rcases I with I|I
   ·rw [p7 I,bD (by decide),bD (by omega)]
   ·rw [xC (by omega) I.1 (by omega),bo (by omega),bo (by omega)]
    congr 1
    omega
  have Y:=F.kinds
  rw [<-key n.A hA,<-key n.B hB]at Y
  exact Y
 ·have:=F.last c8
  rw [oQ hp]
  omega
 ·show sz (e+j)<=j+1
  have:=F.le
  omega
def vV(tD:Ds l sz ks)(hl:l.Nodes.length<=60)(hp:p<l.Nodes.length)(hs:sz p<=p+1)(hs1:1<=sz p):bQ (gV l (p+1-sz p) p)=true:=by
 have hlen:=oQ (l:=l) (e:=p+1-sz p) hp
 refine ER (by rw [hlen];omega) (by rw [hlen];omega) (FX tD hl hp hs) ?_
 rw [hlen]
 show sz (p+1-sz p+(p+1-(p+1-sz p)-1))=_
 rw [show p+1-sz p+(p+1-(p+1-sz p)-1)=p from by omega]
 omega
def LL(hA:n.A= -1\/(e:Int)<=n.A/\n.A<10000)(hB:n.B= -1\/(e:Int)<=n.B/\n.B<10000):oL (e:Int) (oL (-(e:Int)) n)=n:=by
 have key: ∀x:Int,(x= -1\/(e:Int)<=x/\x<10000)->tG (e:Int) (tG (-(e:Int)) x)=x:=by
  intro x I
  rcases I with I|I
  ·rw [p7 I,p7 rfl,I]
  ·rw [xC (by omega) I.1 (by omega)]
   unfold tG
   rw [bD (by omega),bB (by omega) (by omega)]
   omega
 have e1:oL (e:Int) (oL (-(e:Int)) n)={n with A:=tG (e:Int) (tG (-(e:Int)) n.A),B:=tG (e:Int) (tG (-(e:Int)) n.B)}:=rfl
 rw [e1,key _ hA,key _ hB]
def xN(tD:Ds l sz ks)(hl:l.Nodes.length<=60)(hp:p<l.Nodes.length)(hs1:1<=sz p):(gV l (p+1-sz p) p).Nodes.map (oL ((p+1-sz p:Nat):Int))=(l.Nodes.take (p+1)).drop (p+1-sz p):=by
 unfold gV
 simp only [yl]
 conv=>rhs;rw [<-List.map_id ((l.Nodes.take (p+1)).drop (p+1-sz p))]
 refine Bg fun m hm=>?_
 obtain⟨i,hi,rfl⟩:=zu.1 hm
 rw [Bc,zm]at hi
 have hm2:((l.Nodes.take (p+1)).drop (p+1-sz p))[i]'(by rw [Bc,zm];exact hi)=l.Nodes[p+1-sz p+i]'(by omega):=by simp
 rw [hm2]
 obtain⟨n,F⟩:=tD (p+1-sz p+i) (by omega)
 have hn:=F.node
 rw [cw,qY (by omega)]at hn
 injection hn with hn
 rw [hn]
 obtain⟨hA,hB⟩:=J8 tD hp (by omega) (by omega) F
 exact LL (by rcases hA with h|h;exact .inl h;exact .inr ⟨h.1,by omega⟩) (by rcases hB with h|h;exact .inl h;exact .inr ⟨h.1,by omega⟩)
end
def Gc(nx:Nat->aa->aw->aw->Option (aw×Int))(i:Nat)(n:aa)(x out:aw): ∀(tl:List aa) (out1:aw),(∀m∈tl,ck m)->out1.Nodes.length+tl.length<=100000->lc nx i n x out tl out1=(if((i:Int)==(0:Int))then nx (i+1) (aa.mk n.Op (IntKind.i64.wrap (((out1.Nodes++tl.map (oL (out.Nodes.length:Int))).length:Int)-(1:Int))) n.B n.Table n.Kinds n.Left n.Cond n.Keys n.Aggs n.Items n.Order n.Limit) x ⟨out1.Nodes++tl.map (oL (out.Nodes.length:Int))⟩else nx (i+1) (aa.mk n.Op n.A (IntKind.i64.wrap (((out1.Nodes++tl.map (oL (out.Nodes.length:Int))).length:Int)-(1:Int))) n.Table n.Kinds n.Left n.Cond n.Keys n.Aggs n.Items n.Order n.Limit) x ⟨out1.Nodes++tl.map (oL (out.Nodes.length:Int))⟩):=by
 intro tl
 induction tl with
 |nil=>intro out1 _ _;unfold lc;simp only [vq,rD]
 |cons m tl ih2=>
  intro out1 hm hl1
  simp only [i6]at hl1
  rw [lc,pR (hm m (lK ..))]
  simp only [bt]
  rw [cC (by simp;omega)]
  simp only [bt]
  rw [ih2 _ (fun z hz=>hm z (mZ _ hz)) (by simp;omega)]
  simp only [pn,jr,xr,iW]
def xR{x out:aw}(ha:eu a)(hr:bQ a=true)(hl:a.Nodes.length<=1000)(ho:out.Nodes.length<=1000)(parts:List aw)(i:Nat):gq (a::parts) i n x out=(if((i:Int)==(0:Int))then gq parts (i+1) (aa.mk n.Op (IntKind.i64.wrap (((out.Nodes++a.Nodes.map (oL (out.Nodes.length:Int))).length:Int)-(1:Int))) n.B n.Table n.Kinds n.Left n.Cond n.Keys n.Aggs n.Items n.Order n.Limit) x ⟨out.Nodes++a.Nodes.map (oL (out.Nodes.length:Int))⟩else gq parts (i+1) (aa.mk n.Op n.A (IntKind.i64.wrap (((out.Nodes++a.Nodes.map (oL (out.Nodes.length:Int))).length:Int)-(1:Int))) n.Table n.Kinds n.Left n.Cond n.Keys n.Aggs n.Items n.Order n.Limit) x ⟨out.Nodes++a.Nodes.map (oL (out.Nodes.length:Int))⟩):=by
 conv=>lhs;unfold gq
 obtain⟨_,⟨j,J⟩,_⟩:=nP ha
 rw [J,hr]
 simp only [fP,bt]
 rw [bo (by decide),Gc _ i n x out a.Nodes out ha (by omega)]

def GH{α:Type}{xs ys zs:List α}(h:jp xs ys=some zs):zs=xs++ys:=by
 unfold jp at h
 split at h
 ·injection h with h;exact h.symm
 ·cases h
section
variable{d:aw}{sz' :Nat->Nat}{ks' :Nat->List Int}
def rb(F:uD l sz ks j n):(n.A= -1\/0<=n.A/\n.A<(j:Int))/\(n.B= -1\/0<=n.B/\n.B<(j:Int)):=by
 by_cases c1:n.Op=1
 ·obtain⟨a,b,_⟩:=F.lf c1
  exact⟨.inl a,.inl b⟩
 by_cases c27:n.Op=2\/n.Op=7
 ·obtain⟨a,b,c,d,e⟩:=F.bi c27
  exact⟨.inr (by omega),.inr (by omega)⟩
 ·obtain⟨a,b,c,d⟩:=F.un c1 (fun h=>c27 (.inl h)) (fun h=>c27 (.inr h))
  exact⟨.inr (by omega),.inl c⟩
def G4(h:0<=x)(J:x<=10000)(Z:e<=10000):tG (e:Int) x=x+e:=by
 unfold tG
 rw [bD h,bB (by omega) (by omega)]
def HW{m:Nat}(tD:Ds l sz ks)(H' :Ds d sz' ks')(hm:m<=l.Nodes.length)(hl:l.Nodes.length<=200)(he:e<=200)(hd:e+m<=d.Nodes.length)(hn: ∀j,j<m-> ∀n,cQ l.Nodes (j:Int)=some n->cQ d.Nodes ((e+j:Nat):Int)=some (oL (e:Int) n)): ∀j,j<m->sz' (e+j)=sz j/\ks' (e+j)=ks j:=by
 intro j
 induction j using Nat.strongRecOn with
 |ind j ih=>
  intro hj
  obtain⟨n,F⟩:=tD j (by omega)
  obtain⟨n',F'⟩:=H' (e+j) (by omega)
  have hnn:n' =oL (e:Int) n:=by
   have Y:=hn j hj n F.node
   rw [F'.node]at Y
   injection Y
  subst hnn
  obtain⟨hA,hB⟩:=rb F
  constructor
  ·by_cases c1:n.Op=1
   ·rw [(F'.lf c1).2.2,(F.lf c1).2.2]
   by_cases c27:n.Op=2\/n.Op=7
   ·obtain⟨a,b,c,g,q⟩:=F.bi c27
    obtain⟨a',b',c',g',q'⟩:=F'.bi c27
    have ej:e+j-1=e+(j-1):=by omega
    rw [ej,(ih (j-1) (by omega) (by omega)).1,show e+(j-1)-sz (j-1)=e+(j-1-sz (j-1))from by omega,(ih (j-1-sz (j-1)) (by omega) (by omega)).1]at q'
    rw [q',q]
   ·obtain⟨a,b,c,g⟩:=F.un c1 (fun h=>c27 (.inl h)) (fun h=>c27 (.inr h))
    obtain⟨a',b',c',g'⟩:=F'.un c1 (fun h=>c27 (.inl h)) (fun h=>c27 (.inr h))
    rw [show e+j-1=e+(j-1)from by omega,(ih (j-1) (by omega) (by omega)).1]at g'
    rw [g',g]
  ·have key: ∀x:Int,(x= -1\/0<=x/\x<(j:Int))->(if tG (e:Int) x<0 then([]:List Int)else ks' (tG (e:Int) x).toNat)=if x<0 then []else ks x.toNat:=by
    intro x I
    rcases I with I|I
    ·rw [p7 I,bD (by decide),bD (by omega)]
    ·rw [G4 (by omega) (by omega) (by omega),bo (by omega),bo (by omega),show(x+(e:Int)).toNat=e+x.toNat from by omega,(ih x.toNat (by omega) (by omega)).2]
   have Y:=F'.kinds
   have hA' :(oL (e:Int) n).A=tG (e:Int) n.A:=rfl
   have hB' :(oL (e:Int) n).B=tG (e:Int) n.B:=rfl
   rw [Es,hA',hB',key n.A hA,key n.B hB,F.kinds]at Y
   injection Y with Y
   injection Y with Y _
   exact Y.symm
end
def Lc(hS:eu l)(h:bQ l=false):iv l=some ([],230):=by
 obtain⟨_,_,ob,j,r3,_⟩:=nP hS
 unfold iv
 rw [r3,h]
 rfl
structure sK(l:aw)(sz:Nat->Nat)(ks:Nat->List Int):Prop where
 pos:1<=l.Nodes.length
 le:l.Nodes.length<=60
 all:Ds l sz ks
 whole:sz (l.Nodes.length-1)=l.Nodes.length
 kinds:iv l=some (ks (l.Nodes.length-1),0)
def gi(hS:eu l)(h:bQ l=true): ∃sz ks,sK l sz ks:=by
 obtain⟨_,_,ob,j,r3,r4⟩:=nP hS
 obtain⟨hL,hj⟩:=r4 h
 have hle:=hL.le
 have hpos:=hL.pos
 obtain⟨N0,_⟩:=hL.inv.at (j:=l.Nodes.length-1) (by omega)
 refine⟨vG ob.first,Er ob.kinds,hpos,hle,fun j hj=>AG hL.inv hle hj,?_,?_⟩
 ·have e1:=N0.size fQ (n8 (by omega))
  have e2:=hL.whole
  unfold gx at e2
  rw [show(l.Nodes.length:Int)-1=((l.Nodes.length-1:Nat):Int)from by omega,e1]at e2
  injection e2 with e2
  omega
 ·unfold iv
  rw [r3,h]
  simp only [bt,nC,kP,iB]
  have hk:cQ ob.kinds j=some (Er ob.kinds (l.Nodes.length-1)):=by
   rw [hj,show(l.Nodes.length:Int)-1=((l.Nodes.length-1:Nat):Int)from by omega,cw]
   unfold Er
   rw [qY (by rw [hL.inv.kl];omega)];rfl
  rw [hk]
  simp only [bt]
  rw [oB _ (by have:=N0.len;omega)]
  rfl

def uA(x y:Int)(n:aa):aa:={n with A:=x,B:=y}
def EC(n:aa)(x y:Int): ∀(fu:Nat) (ok:Bool) (i:Int),dJ (uA x y n) fu ok i=dJ n fu ok i:=by
 intro fu
 induction fu with
 |zero=>intros;rfl
 |succ fu ih=>intros;simp only [dJ,ih];rfl
def Ey(n:aa)(x y:Int)(a:List Int): ∀(fu:Nat) (out:List Int) (ok:Bool) (i:Int),dc (uA x y n) a fu out ok i=dc n a fu out ok i:=by
 intro fu
 induction fu with
 |zero=>intros;rfl
 |succ fu ih=>intros;simp only [dc,ih];rfl
def EA(n:aa)(x y:Int)(a:List Int): ∀(fu:Nat) (out:List Int) (i:Int),du (uA x y n) a fu out i=du n a fu out i:=by
 intro fu
 induction fu with
 |zero=>intros;rfl
 |succ fu ih=>intros;simp only [du,ih,Ey];rfl
def Ew(n:aa)(x y:Int)(a:List Int): ∀(fu:Nat) (out:List Int) (ok:Bool) (i:Int),cH (uA x y n) a fu out ok i=cH n a fu out ok i:=by
 intro fu
 induction fu with
 |zero=>intros;rfl
 |succ fu ih=>intros;simp only [cH,ih];rfl
def Eu(n:aa)(x y:Int)(a:List Int): ∀(fu:Nat) (ok:Bool) (i:Int),dI (uA x y n) a fu ok i=dI n a fu ok i:=by
 intro fu
 induction fu with
 |zero=>intros;rfl
 |succ fu ih=>intros;simp only [dI,ih];rfl
def ED(n:aa)(x y:Int)(a b:List Int):bc (uA x y n) a b=bc n a b:=by
 unfold bc
 simp only [EC,EA,Ew,Eu]
 rfl
def d1(n:aa)(a:aw):aw:=⟨a.Nodes++[uA ((a.Nodes.length:Int)-1) (-1) n]⟩
def d2(n:aa)(a b:aw):aw:=⟨(a.Nodes++b.Nodes.map (oL (a.Nodes.length:Int)))++[uA ((a.Nodes.length:Int)-1) ((a.Nodes.length:Int)+(b.Nodes.length:Int)-1) n]⟩
def o0(n:aa)(a:aw):(d1 n a).Nodes.length=a.Nodes.length+1:=by simp [d1]
def uz(n:aa)(a b:aw):(d2 n a b).Nodes.length=a.Nodes.length+b.Nodes.length+1:=by simp [d2];omega
def AQ(hn:ck n)(ha:eu a):eu (d1 n a):=by
 intro m hm
 rcases pY.1 hm with h|h
 ·exact ha m h
 ·rw [jL.1 h];exact hn.at _ _
def AP(hn:ck n)(ha:eu a)(V:eu b):eu (d2 n a b):=by
 intro m hm
 rcases pY.1 hm with h|h
 ·rcases pY.1 h with h|h
  ·exact ha m h
  ·exact CS V m h
 ·rw [jL.1 h];exact hn.at _ _
def Ar{x out:aw}(hn:ck n)(hA:n.A<=100000)(hB:n.B<=100000)(ho:eu out)(hl:out.Nodes.length<=4000)(i:Nat):gq [] i n x out=some (if bQ ⟨out.Nodes++[n]⟩then(⟨out.Nodes++[n]⟩,0)else(⟨[]⟩,230)):=by
 unfold gq
 rw [pR hn,zQ hA hB]
 simp only [bt]
 rw [cC (by simp;omega)]
 simp only [bt]
 have hs:eu (⟨out.Nodes++[n]⟩:aw):=by
  intro m hm
  rcases pY.1 hm with h|h
  ·exact ho m h
  ·rw [jL.1 h];exact hn
 obtain⟨_,⟨j,J⟩,_⟩:=nP hs
 have h2' :iS ({out with Nodes:=out.Nodes++[n]}:aw)=_:=J
 rw [h2']
 cases hr:bQ (⟨out.Nodes++[n]⟩:aw)<;>simp
def wU(af:sK a sz ks):a.Nodes.map (oL ((([]:List aa).length:Nat):Int))=a.Nodes:=by
 conv=>rhs;rw [<-List.map_id a.Nodes]
 refine Bg fun m hm=>?_
 obtain⟨j,hj,rfl⟩:=zu.1 hm
 obtain⟨n,F⟩:=af.all j hj
 have hn:=F.node
 rw [cw,qY hj]at hn
 injection hn with hn
 rw [hn]
 obtain⟨hA,hB⟩:=rb F
 have hle:=af.le
 exact zQ (by omega) (by omega)
def J0(hn:ck n)(ha:eu a)(V:eu b)(hra:bQ a=true)(hrb:bQ b=true):nd n [a,b]=some (if bQ (d2 n a b)then(d2 n a b,0)else(⟨[]⟩,230)):=by
 obtain⟨sza,ksa,Ka⟩:=gi ha hra
 obtain⟨szb,ksb,Kb⟩:=gi V hrb
 have la:=Ka.le
 have lb:=Kb.le
 have pa:=Ka.pos
 have pb:=Kb.pos
 unfold nd
 rw [xR ha hra (by omega) (by simp),bD (by simp),wU Ka]
 simp only [iW]
 rw [xR V hrb (by omega) (by simp;omega),bo (by decide)]
 rw [bB (n:=(a.Nodes.length:Int)-1) (by omega) (by omega),bB (by simp;omega) (by simp;omega)]
 rw [Ar]
 ·have e:(a.Nodes++b.Nodes.map (oL (a.Nodes.length:Int)))++[aa.mk n.Op ((a.Nodes.length:Int)-1) (((a.Nodes++b.Nodes.map (oL (a.Nodes.length:Int))).length:Int)-1) n.Table n.Kinds n.Left n.Cond n.Keys n.Aggs n.Items n.Order n.Limit]=(d2 n a b).Nodes:=by
   unfold d2 uA
   simp only [jE,zl,Int.natCast_add]
  simp only [e]
 ·exact hn.at _ _
 ·show(a.Nodes.length:Int)-1<=_
  omega
 ·show((a.Nodes++b.Nodes.map (oL (a.Nodes.length:Int))).length:Int)-1<=_
  simp;omega
 ·intro m hm
  rcases pY.1 hm with h|h
  ·exact ha m h
  ·exact CS V m h
 ·simp;omega
def J1(hn:ck n)(ha:eu a)(hra:bQ a=true):nd n [a]=some (if bQ (d1 n a)then(d1 n a,0)else(⟨[]⟩,230)):=by
 obtain⟨sza,ksa,Ka⟩:=gi ha hra
 have la:=Ka.le
 have pa:=Ka.pos
 unfold nd
 rw [xR ha hra (by omega) (by simp),bD (by simp),wU Ka]
 simp only [iW]
 rw [bB (n:=(a.Nodes.length:Int)-1) (by omega) (by omega)]
 rw [Ar]
 ·rfl
 ·exact hn.at _ _
 ·show(a.Nodes.length:Int)-1<=_
  omega
 ·show(-1:Int)<=_
  omega
 ·exact ha
 ·show a.Nodes.length<=_
  omega
def QK(hj:j<a.Nodes.length):cQ (d2 n a b).Nodes (j:Int)=cQ a.Nodes (j:Int):=by
 rw [cw,cw]
 unfold d2
 simp only
 rw [u4 (by simp;omega),u4 hj]
def QJ{m:aa}(hj:j<b.Nodes.length)(h:cQ b.Nodes (j:Int)=some m):cQ (d2 n a b).Nodes ((a.Nodes.length+j:Nat):Int)=some (oL (a.Nodes.length:Int) m):=by
 rw [cw]at h ⊢
 unfold d2
 simp only
 rw [u4 (by simp;omega),qq (by omega),show a.Nodes.length+j-a.Nodes.length=j from by omega,yp,h]
 rfl
def Na:cQ (d2 n a b).Nodes ((a.Nodes.length+b.Nodes.length:Nat):Int)=some (uA ((a.Nodes.length:Int)-1) ((a.Nodes.length:Int)+(b.Nodes.length:Int)-1) n):=by
 rw [cw]
 unfold d2
 simp only
 rw [qq (by simp),show a.Nodes.length+b.Nodes.length-(a.Nodes++b.Nodes.map (oL (a.Nodes.length:Int))).length=0 from by simp]
 rfl
def QL(hj:j<a.Nodes.length):cQ (d1 n a).Nodes (j:Int)=cQ a.Nodes (j:Int):=by
 rw [cw,cw]
 unfold d1
 simp only
 rw [u4 hj]
def Pm:cQ (d1 n a).Nodes (a.Nodes.length:Int)=some (uA ((a.Nodes.length:Int)-1) (-1) n):=by
 rw [cw]
 unfold d1
 simp only
 rw [qq (iQ _),xp]
 rfl
def uS(af:sK a sz ks)(F:uD a sz ks j n)(hj:j<a.Nodes.length):oL ((0:Nat):Int) n=n:=by
 obtain⟨hA,hB⟩:=rb F
 have hle:=af.le
 exact zQ (by omega) (by omega)
def Qg{sza szb szd:Nat->Nat}{ksa ksb ksd:Nat->List Int}(Ka:sK a sza ksa)(Kb:sK b szb ksb)(Kd:sK (d2 n a b) szd ksd):bc n (ksa (a.Nodes.length-1)) (ksb (b.Nodes.length-1))=some (ksd (a.Nodes.length+b.Nodes.length),true):=by
 have la:=Ka.le
 have lb:=Kb.le
 have pa:=Ka.pos
 have pb:=Kb.pos
 have hlen:=uz n a b
 have ld:=Kd.le
 have ua:=HW (l:=a) (d:=d2 n a b) (e:=0) (m:=a.Nodes.length) Ka.all Kd.all (iQ _) (by omega) (by omega) (by omega) (fun j hj m hm=>by
  obtain⟨m',F⟩:=Ka.all j hj
  have e:m' =m:=by have:=F.node;rw [hm]at this;injection this with this;exact this.symm
  subst e
  rw [pL,QK hj,hm,uS Ka F hj]) (a.Nodes.length-1) (by omega)
 have ub:=HW (l:=b) (d:=d2 n a b) (e:=a.Nodes.length) (m:=b.Nodes.length) Kb.all Kd.all (iQ _) (by omega) (by omega) (by omega) (fun j hj m hm=>QJ hj hm) (b.Nodes.length-1) (by omega)
 obtain⟨r,F⟩:=Kd.all (a.Nodes.length+b.Nodes.length) (by omega)
 have hr:r=uA ((a.Nodes.length:Int)-1) ((a.Nodes.length:Int)+(b.Nodes.length:Int)-1) n:=by
  have:=F.node
  rw [Na]at this
  injection this with this
  exact this.symm
 subst hr
 have h:=F.kinds
 rw [ED]at h
 have eA:(uA ((a.Nodes.length:Int)-1) ((a.Nodes.length:Int)+(b.Nodes.length:Int)-1) n).A=(a.Nodes.length:Int)-1:=rfl
 have eB:(uA ((a.Nodes.length:Int)-1) ((a.Nodes.length:Int)+(b.Nodes.length:Int)-1) n).B=(a.Nodes.length:Int)+(b.Nodes.length:Int)-1:=rfl
 rw [eA,eB,bo (by omega),bo (by omega)]at h
 rw [show((a.Nodes.length:Int)-1).toNat=0+(a.Nodes.length-1)from by omega,ua.2,show((a.Nodes.length:Int)+(b.Nodes.length:Int)-1).toNat=a.Nodes.length+(b.Nodes.length-1)from by omega,ub.2]at h
 exact h
def Jw(hS:eu l)(h:bQ l=true):l.Nodes.length<=60:=by
 obtain⟨sz,ks,af⟩:=gi hS h
 exact af.le

def Ip(af:sK l sz ks):(ks (l.Nodes.length-1)).length<=16:=by
 have:=af.pos
 obtain⟨n,F⟩:=af.all (l.Nodes.length-1) (by omega)
 exact F.len
def FP(hS:eu l)(h:bQ l=true):oV l=some (!(l.Nodes.any ww)):=by
 obtain⟨_,⟨j,r2⟩,ob,j',r3,r4⟩:=nP hS
 obtain⟨hL,_⟩:=r4 h
 unfold oV
 rw [r2,h]
 simp only [fP,bt]
 rw [bo (by decide)]
 exact AW l.Nodes (fun n hn=>(El hS hL n hn).1)
def CB(hS:eu l)(h:bQ l=true):kE l=some (vo (sortI (tabs l.Nodes))):=by
 obtain⟨_,⟨j,r2⟩,ob,j',r3,r4⟩:=nP hS
 have hle:=Jw hS h
 unfold kE
 rw [r2,h]
 simp only [fP,bt]
 rw [bo (by decide),tk l.Nodes [] (by simp;omega),iW]
def LE(d:Int)(ns:List aa):tabs (ns.map (oL d))=tabs ns:=by
 induction ns with
 |nil=>rfl
 |cons n ns ih=>
  unfold tabs at*
  rw [pn]
  have e:(oL d n).Op=n.Op:=rfl
  have e2:(oL d n).Table=n.Table:=rfl
  by_cases h:n.Op=1
  ·rw [Dz (by rw [e];simp [h]),Dz (by simp [h]),pn,pn,ih,e2]
  ·rw [Cv (by rw [e];simp [h]),Cv (by simp [h]),ih]
end Go.Proofs.YtbmmihfagmchaaaGreat

