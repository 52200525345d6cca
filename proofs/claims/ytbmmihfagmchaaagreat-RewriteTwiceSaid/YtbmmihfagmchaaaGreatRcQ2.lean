/- cW of this claim: L11, L12, L13, L14. -/
import Derived.Test.YtbmmihfagmchaaaGreatRcQ1
set_option linter.all false
namespace Go.Proofs.YtbmmihfagmchaaaGreat
open Go

variable{a:aw}{x:Int}
def Bb(a:List Int):iD a a=some true:=by
 unfold iD
 rw [bn (by simp)]
 have key: ∀(tl:List Int) (i:Nat),a.drop i=tl->gv a tl i=some true:=by
  intro tl
  induction tl with
  |nil=>intro i _;rfl
  |cons x tl ih=>
   intro i h
   obtain⟨Y,_,Z⟩:=iL h
   unfold gv
   rw [Y]
   simp only [bo,bne_self_eq_false,jx,gE]
   exact ih (i+1) Z
 exact key a 0 rfl
def Ba(a:List jU):gh a a=some true:=by
 unfold gh
 rw [bn (by simp)]
 have key: ∀(tl:List jU) (i:Nat),a.drop i=tl->d6 a tl i=some true:=by
  intro tl
  induction tl with
  |nil=>intro i _;rfl
  |cons x tl ih=>
   intro i h
   obtain⟨Y,_,Z⟩:=iL h
   unfold d6
   rw [Y]
   simp only [bo,decide_true,mq,jx,gE]
   exact ih (i+1) Z
 exact key a 0 rfl
variable{e:Nat}
def ra(e:ai):nH e e=some true:=by
 unfold nH gH
 rw [bn (by simp)]
 have key: ∀(tl:List aj) (i:Nat),e.Nodes.drop i=tl->du e.Nodes tl i=some true:=by
  intro tl
  induction tl with
  |nil=>intro i _;rfl
  |cons x tl ih=>
   intro i h
   obtain⟨Y,_,Z⟩:=iL h
   unfold du
   rw [Y]
   simp only [bo,decide_true,mq,jx,gE]
   exact ih (i+1) Z
 rw [key e.Nodes 0 rfl];rfl
def wx(a:List gQ):cO a a kP=some true:=by
 unfold cO
 rw [bn (by simp)]
 have key: ∀(tl:List gQ) (i:Nat),a.drop i=tl->ca a kP tl i=some true:=by
  intro tl
  induction tl with
  |nil=>intro i _;rfl
  |cons x tl ih=>
   intro i h
   obtain⟨Y,_,Z⟩:=iL h
   unfold ca
   rw [Y]
   simp only [bo]
   have:kP x x=some true:=by unfold kP;rw [bE (by simp),ra];rfl
   rw [this]
   simp only [bo,mq,jx,gE]
   exact ih (i+1) Z
 exact key a 0 rfl
def vq(a:List ai):cv a a nH=some true:=by
 unfold cv
 rw [bn (by simp)]
 have key: ∀(tl:List ai) (i:Nat),a.drop i=tl->bK a nH tl i=some true:=by
  intro tl
  induction tl with
  |nil=>intro i _;rfl
  |cons x tl ih=>
   intro i h
   obtain⟨Y,_,Z⟩:=iL h
   unfold bK
   rw [Y]
   simp only [bo]
   rw [ra]
   simp only [bo,mq,jx,gE]
   exact ih (i+1) Z
 exact key a 0 rfl
variable{n:aa}
def y9(n:aa):qZ n n=some true:=by
 unfold qZ
 simp only [Bb,Ba,ra,wx,vq,bo,gu,beq_self_eq_true,Bool.and_self]
variable{l:aw}
def tI(l:aw):q5 l l=some true:=by
 unfold q5 cX
 rw [bn (by simp)]
 have key: ∀(tl:List aa) (i:Nat),l.Nodes.drop i=tl->bD l.Nodes qZ tl i=some true:=by
  intro tl
  induction tl with
  |nil=>intro i _;rfl
  |cons x tl ih=>
   intro i h
   obtain⟨Y,_,Z⟩:=iL h
   unfold bD
   rw [Y]
   simp only [bo]
   rw [y9]
   simp only [bo,mq,jx,gE]
   exact ih (i+1) Z
 rw [key l.Nodes 0 rfl];rfl
def EG(n:aa)(d:Int): ∀(fu:Nat) (ok:Bool) (i:Int),dQ (oO d n) fu ok i=dQ n fu ok i:=by
 intro fu
 induction fu with
 |zero=>intros;rfl
 |succ fu ih=>intros;simp only [dQ,ih];rfl
def EC(n:aa)(d:Int)(a:List Int): ∀(fu:Nat) (out:List Int) (ok:Bool) (i:Int),eT (oO d n) a fu out ok i=eT n a fu out ok i:=by
 intro fu
 induction fu with
 |zero=>intros;rfl
 |succ fu ih=>intros;simp only [eT,ih];rfl
def EE(n:aa)(d:Int)(a:List Int): ∀(fu:Nat) (out:List Int) (i:Int),eU (oO d n) a fu out i=eU n a fu out i:=by
 intro fu
 induction fu with
 |zero=>intros;rfl
 |succ fu ih=>intros;simp only [eU,ih,EC];rfl
def EA(n:aa)(d:Int)(a:List Int): ∀(fu:Nat) (out:List Int) (ok:Bool) (i:Int),dB (oO d n) a fu out ok i=dB n a fu out ok i:=by
 intro fu
 induction fu with
 |zero=>intros;rfl
 |succ fu ih=>intros;simp only [dB,ih];rfl
def Ey(n:aa)(d:Int)(a:List Int): ∀(fu:Nat) (ok:Bool) (i:Int),dP (oO d n) a fu ok i=dP n a fu ok i:=by
 intro fu
 induction fu with
 |zero=>intros;rfl
 |succ fu ih=>intros;simp only [dP,ih];rfl
variable{b:aw}
def Ex(n:aa)(d:Int)(a b:List Int):bk (oO d n) a b=bk n a b:=by
 unfold bk
 simp only [EG,EE,EA,Ey]
 rfl
def LO(n:aa)(d:Int):xU (oO d n)=xU n:=rfl
variable{j:Nat}{ks:Nat->List Int}{p:Nat}{sz:Nat->Nat}
section
abbrev Dz(l:aw)(sz:Nat->Nat)(ks:Nat->List Int):Prop:= ∀j,j<l.Nodes.length-> ∃n,uN l sz ks j n
def Qm(tD:Dz l sz ks): ∀(p:Nat),p<l.Nodes.length-> ∀q,p+1-sz p<=q->q<=p->p+1-sz p<=q+1-sz q:=by
 intro p
 induction p using Nat.strongRecOn with
 |ind p ih=>
  intro hp q Y J
  by_cases hq:q=p
  ·subst hq;exact dr _
  obtain⟨n,F⟩:=tD p hp
  by_cases c1:n.Op=1
  ·obtain⟨_,_,e⟩:=F.lf c1
   omega
  by_cases c27:n.Op=2\/n.Op=7
  ·obtain⟨a,b,c,d,e⟩:=F.bi c27
   obtain⟨nA,FA⟩:=tD (p-1-sz (p-1)) (by omega)
   have hpA:=FA.pos
   have hlA:=FA.le
   by_cases hB:p-1+1-sz (p-1)<=q
   ·have:=ih (p-1) (by omega) (by omega) q hB (by omega)
    omega
   ·have:=ih (p-1-sz (p-1)) (by omega) (by omega) q (by omega) (by omega)
    omega
  ·obtain⟨a,b,c,d⟩:=F.un c1 (fun h=>c27 (.inl h)) (fun h=>c27 (.inr h))
   have:=ih (p-1) (by omega) (by omega) q (by omega) (by omega)
   omega
def J5(tD:Dz l sz ks){i:Nat}(hp:p<l.Nodes.length)(Y:p+1-sz p<=i)(J:i<=p)(F:uN l sz ks i n):(n.A= -1\/((p+1-sz p:Nat):Int)<=n.A/\n.A<(i:Int))/\(n.B= -1\/((p+1-sz p:Nat):Int)<=n.B/\n.B<(i:Int)):=by
 have hn:=Qm tD p hp i Y J
 by_cases c1:n.Op=1
 ·obtain⟨a,b,_⟩:=F.lf c1
  exact⟨.inl a,.inl b⟩
 by_cases c27:n.Op=2\/n.Op=7
 ·obtain⟨a,b,c,d,e⟩:=F.bi c27
  obtain⟨nA,FA⟩:=tD (i-1-sz (i-1)) (by omega)
  have hpA:=FA.pos
  have hlA:=FA.le
  exact⟨.inr (by omega),.inr (by omega)⟩
 ·obtain⟨a,b,c,d⟩:=F.un c1 (fun h=>c27 (.inl h)) (fun h=>c27 (.inr h))
  obtain⟨nA,FA⟩:=tD (i-1) (by omega)
  have hpA:=FA.pos
  exact⟨.inr (by omega),.inl c⟩
def qh{d:Int}(h:x= -1):tQ d x= -1:=by unfold tQ;rw [bn (by omega),h]
def xI{e:Int}(h:0<=e)(J:e<=x)(Z:x<=100000):tQ (-e) x=x-e:=by
 unfold tQ
 rw [bE (by omega),bH (by omega) (by omega)]
 omega
def F3(tD:Dz l sz ks)(hl:l.Nodes.length<=60)(hp:p<l.Nodes.length)(hs:sz p<=p+1):Dz (ib l (p+1-sz p) p) (fun j=>sz (p+1-sz p+j)) (fun j=>ks (p+1-sz p+j)):=by
 obtain⟨e,he⟩: ∃e,e=p+1-sz p:=⟨_,rfl⟩
 rw [<-he]
 intro j hj
 rw [oT hp]at hj
 obtain⟨n,F⟩:=tD (e+j) (by omega)
 have hin:=J5 tD hp (i:=e+j) (by omega) (by omega) F
 have hnest:=Qm tD p hp (e+j) (by omega) (by omega)
 rw [<-he]at hin hnest
 obtain⟨hA,hB⟩:=hin
 refine⟨oO (-(e:Int)) n,⟨?_,F.op,by rw [LO];exact F.own,fun c1=>?_,fun c1 c2 c7=>?_,fun c27=>?_,?_,fun c8=>?_,F.len,F.pos,?_⟩⟩
 ·have Y:=F.node
  rw [cI]at Y ⊢
  unfold ib
  simp only
  rw [yw,ue,wE (by omega),Y]
  rfl
 ·obtain⟨a,b,c⟩:=F.lf c1
  exact⟨qh a,qh b,c⟩
 ·obtain⟨a,b,c,d⟩:=F.un c1 c2 c7
  obtain⟨nA,FA⟩:=tD (e+j-1) (by omega)
  have hpA:=FA.pos
  have eA:tQ (-(e:Int)) n.A=n.A-(e:Int):=xI (by omega) (by omega) (by omega)
  refine⟨by omega,?_,qh c,?_⟩
  ·show tQ (-(e:Int)) n.A=_
   rw [eA];omega
  ·show sz (e+j)=sz (e+(j-1))+1
   rw [d,show e+j-1=e+(j-1)from by omega]
 ·obtain⟨a,b,c,d,g⟩:=F.bi c27
  obtain⟨nA,FA⟩:=tD (e+j-1-sz (e+j-1)) (by omega)
  have hpA:=FA.pos
  have eA:tQ (-(e:Int)) n.A=n.A-(e:Int):=xI (by omega) (by omega) (by omega)
  have eB:tQ (-(e:Int)) n.B=n.B-(e:Int):=xI (by omega) (by omega) (by omega)
  have ej:e+(j-1)=e+j-1:=by omega
  refine⟨by omega,?_,?_,?_,?_⟩
  ·show tQ (-(e:Int)) n.B=_
   rw [eB];omega
  ·show sz (e+(j-1))<j
   rw [ej];omega
  ·show tQ (-(e:Int)) n.A=(j:Int)-1-(sz (e+(j-1)):Int)
   rw [eA,ej];omega
  ·show sz (e+j)=sz (e+(j-1-sz (e+(j-1))))+sz (e+(j-1))+1
   rw [ej,g,show e+(j-1-sz (e+j-1))=e+j-1-sz (e+j-1)from by omega]
 ·rw [Ex]
  have key: ∀x:Int,(x= -1\/(e:Int)<=x/\x<((e+j:Nat):Int))->(if tQ (-(e:Int)) x<0 then([]:List Int)else ks (e+(tQ (-(e:Int)) x).toNat))=if x<0 then []else ks x.toNat:=by
   intro x I
   rcases I with I|I
   ·rw [qh I,bE (by decide),bE (by omega)]
   ·rw [xI (by omega) I.1 (by omega),bn (by omega),bn (by omega)]
    congr 1
    omega
  have Y:=F.kinds
  rw [<-key n.A hA,<-key n.B hB]at Y
  exact Y
 ·have:=F.last c8
  rw [oT hp]
  omega
 ·show sz (e+j)<=j+1
  have:=F.le
  omega
def wi(tD:Dz l sz ks)(hl:l.Nodes.length<=60)(hp:p<l.Nodes.length)(hs:sz p<=p+1)(hs1:1<=sz p):bS (ib l (p+1-sz p) p)=true:=by
 have hlen:=oT (l:=l) (e:=p+1-sz p) hp
 refine EW (by rw [hlen];omega) (by rw [hlen];omega) (F3 tD hl hp hs) ?_
 rw [hlen]
 show sz (p+1-sz p+(p+1-(p+1-sz p)-1))=_
 rw [show p+1-sz p+(p+1-(p+1-sz p)-1)=p from by omega]
 omega
def LI(hA:n.A= -1\/(e:Int)<=n.A/\n.A<10000)(hB:n.B= -1\/(e:Int)<=n.B/\n.B<10000):oO (e:Int) (oO (-(e:Int)) n)=n:=by
 have key: ∀x:Int,(x= -1\/(e:Int)<=x/\x<10000)->tQ (e:Int) (tQ (-(e:Int)) x)=x:=by
  intro x I
  rcases I with I|I
  ·rw [qh I,qh rfl,I]
  ·rw [xI (by omega) I.1 (by omega)]
   unfold tQ
   rw [bE (by omega),bH (by omega) (by omega)]
   omega
 have e1:oO (e:Int) (oO (-(e:Int)) n)={n with A:=tQ (e:Int) (tQ (-(e:Int)) n.A),B:=tQ (e:Int) (tQ (-(e:Int)) n.B)}:=rfl
 rw [e1,key _ hA,key _ hB]
def xT(tD:Dz l sz ks)(hl:l.Nodes.length<=60)(hp:p<l.Nodes.length)(hs1:1<=sz p):(ib l (p+1-sz p) p).Nodes.map (oO ((p+1-sz p:Nat):Int))=(l.Nodes.take (p+1)).drop (p+1-sz p):=by
 unfold ib
 simp only [yq]
 conv=>rhs;rw [<-List.map_id ((l.Nodes.take (p+1)).drop (p+1-sz p))]
 refine Bn fun m hm=>?_
 obtain⟨i,hi,rfl⟩:=BO.1 hm
 rw [Bj,zq]at hi
 have hm2:((l.Nodes.take (p+1)).drop (p+1-sz p))[i]'(by rw [Bj,zq];exact hi)=l.Nodes[p+1-sz p+i]'(by omega):=by simp
 rw [hm2]
 obtain⟨n,F⟩:=tD (p+1-sz p+i) (by omega)
 have hn:=F.node
 rw [cI,rg (by omega)]at hn
 injection hn with hn
 rw [hn]
 obtain⟨hA,hB⟩:=J5 tD hp (by omega) (by omega) F
 exact LI (by rcases hA with h|h;exact .inl h;exact .inr ⟨h.1,by omega⟩) (by rcases hB with h|h;exact .inl h;exact .inr ⟨h.1,by omega⟩)
end
def Gh(nx:Nat->aa->aw->aw->Option (aw×Int))(i:Nat)(n:aa)(x out:aw): ∀(tl:List aa) (out1:aw),(∀m∈tl,cj m)->out1.Nodes.length+tl.length<=100000->ll nx i n x out tl out1=(if((i:Int)==(0:Int))then nx (i+1) (aa.mk n.Op (IntKind.i64.wrap (((out1.Nodes++tl.map (oO (out.Nodes.length:Int))).length:Int)-(1:Int))) n.B n.Table n.Kinds n.Left n.Cond n.Keys n.Aggs n.Items n.Order n.Limit) x ⟨out1.Nodes++tl.map (oO (out.Nodes.length:Int))⟩else nx (i+1) (aa.mk n.Op n.A (IntKind.i64.wrap (((out1.Nodes++tl.map (oO (out.Nodes.length:Int))).length:Int)-(1:Int))) n.Table n.Kinds n.Left n.Cond n.Keys n.Aggs n.Items n.Order n.Limit) x ⟨out1.Nodes++tl.map (oO (out.Nodes.length:Int))⟩):=by
 intro tl
 induction tl with
 |nil=>intro out1 _ _;unfold ll;simp only [vH,rR]
 |cons m tl ih2=>
  intro out1 hm hl1
  simp only [jv]at hl1
  rw [ll,pW (hm m (mp ..))]
  simp only [bo]
  rw [cL (by simp;omega)]
  simp only [bo]
  rw [ih2 _ (fun z hz=>hm z (nu _ hz)) (by simp;omega)]
  simp only [py,jC,xA,je]
def xX{x out:aw}(ha:fM a)(hr:bS a=true)(hl:a.Nodes.length<=1000)(ho:out.Nodes.length<=1000)(parts:List aw)(i:Nat):gD (a::parts) i n x out=(if((i:Int)==(0:Int))then gD parts (i+1) (aa.mk n.Op (IntKind.i64.wrap (((out.Nodes++a.Nodes.map (oO (out.Nodes.length:Int))).length:Int)-(1:Int))) n.B n.Table n.Kinds n.Left n.Cond n.Keys n.Aggs n.Items n.Order n.Limit) x ⟨out.Nodes++a.Nodes.map (oO (out.Nodes.length:Int))⟩else gD parts (i+1) (aa.mk n.Op n.A (IntKind.i64.wrap (((out.Nodes++a.Nodes.map (oO (out.Nodes.length:Int))).length:Int)-(1:Int))) n.Table n.Kinds n.Left n.Cond n.Keys n.Aggs n.Items n.Order n.Limit) x ⟨out.Nodes++a.Nodes.map (oO (out.Nodes.length:Int))⟩):=by
 conv=>lhs;unfold gD
 obtain⟨_,⟨j,J⟩,_⟩:=pE ha
 rw [J,hr]
 simp only [gu,bo]
 rw [bn (by decide),Gh _ i n x out a.Nodes out ha (by omega)]

def GO{α:Type}{xs ys zs:List α}(h:jT xs ys=some zs):zs=xs++ys:=by
 unfold jT at h
 split at h
 ·injection h with h;exact h.symm
 ·cases h
section
variable{d:aw}{sz' :Nat->Nat}{ks' :Nat->List Int}
def ro(F:uN l sz ks j n):(n.A= -1\/0<=n.A/\n.A<(j:Int))/\(n.B= -1\/0<=n.B/\n.B<(j:Int)):=by
 by_cases c1:n.Op=1
 ·obtain⟨a,b,_⟩:=F.lf c1
  exact⟨.inl a,.inl b⟩
 by_cases c27:n.Op=2\/n.Op=7
 ·obtain⟨a,b,c,d,e⟩:=F.bi c27
  exact⟨.inr (by omega),.inr (by omega)⟩
 ·obtain⟨a,b,c,d⟩:=F.un c1 (fun h=>c27 (.inl h)) (fun h=>c27 (.inr h))
  exact⟨.inr (by omega),.inl c⟩
def Ha(h:0<=x)(J:x<=10000)(Z:e<=10000):tQ (e:Int) x=x+e:=by
 unfold tQ
 rw [bE h,bH (by omega) (by omega)]
def H3{m:Nat}(tD:Dz l sz ks)(H' :Dz d sz' ks')(hm:m<=l.Nodes.length)(hl:l.Nodes.length<=200)(he:e<=200)(hd:e+m<=d.Nodes.length)(hn: ∀j,j<m-> ∀n,cU l.Nodes (j:Int)=some n->cU d.Nodes ((e+j:Nat):Int)=some (oO (e:Int) n)): ∀j,j<m->sz' (e+j)=sz j/\ks' (e+j)=ks j:=by
 intro j
 induction j using Nat.strongRecOn with
 |ind j ih=>
  intro hj
  obtain⟨n,F⟩:=tD j (by omega)
  obtain⟨n',F'⟩:=H' (e+j) (by omega)
  have hnn:n' =oO (e:Int) n:=by
   have Y:=hn j hj n F.node
   rw [F'.node]at Y
   injection Y
  subst hnn
  obtain⟨hA,hB⟩:=ro F
  constructor
  ·by_cases c1:n.Op=1
   ·rw [(F'.lf c1).2.2,(F.lf c1).2.2]
   by_cases c27:n.Op=2\/n.Op=7
   ·obtain⟨a,b,c,g,q⟩:=F.bi c27
    obtain⟨a',b',c',g',q'⟩:=F'.bi c27
    have ej:e+j-1=e+(j-1):=by omega
    rw [ej,(ih (j-1) (by omega) (by omega)).1,show e+(j-1)-sz (j-1)=e+(j-1-sz (j-1))from by omega,(ih (j-1-sz (j-1)) (by omega) (by omega)).1]at q'
    rw [q',q]
   ·obtain⟨a,b,c,g⟩:=F.un c1 (fun h=>c27 (.inl h)) (fun h=>c27 (.inr h))
    obtain⟨a',b',c',g'⟩:=F'.un c1 (fun h=>c27 (.inl h)) (fun h=>c27 (.inr h))
    rw [show e+j-1=e+(j-1)from by omega,(ih (j-1) (by omega) (by omega)).1]at g'
    rw [g',g]
  ·have key: ∀x:Int,(x= -1\/0<=x/\x<(j:Int))->(if tQ (e:Int) x<0 then([]:List Int)else ks' (tQ (e:Int) x).toNat)=if x<0 then []else ks x.toNat:=by
    intro x I
    rcases I with I|I
    ·rw [qh I,bE (by decide),bE (by omega)]
    ·rw [Ha (by omega) (by omega) (by omega),bn (by omega),bn (by omega),show(x+(e:Int)).toNat=e+x.toNat from by omega,(ih x.toNat (by omega) (by omega)).2]
   have Y:=F'.kinds
   have hA' :(oO (e:Int) n).A=tQ (e:Int) n.A:=rfl
   have hB' :(oO (e:Int) n).B=tQ (e:Int) n.B:=rfl
   rw [Ex,hA',hB',key n.A hA,key n.B hB,F.kinds]at Y
   injection Y with Y
   injection Y with Y _
   exact Y.symm
end
structure sS(l:aw)(sz:Nat->Nat)(ks:Nat->List Int):Prop where
 pos:1<=l.Nodes.length
 le:l.Nodes.length<=60
 all:Dz l sz ks
 whole:sz (l.Nodes.length-1)=l.Nodes.length
 kinds:l0 l=some (ks (l.Nodes.length-1),0)
def gL(hS:fM l)(h:bS l=true): ∃sz ks,sS l sz ks:=by
 obtain⟨_,_,ob,j,r3,r4⟩:=pE hS
 obtain⟨hL,hj⟩:=r4 h
 have hle:=hL.le
 have hpos:=hL.pos
 obtain⟨N0,_⟩:=hL.inv.at (j:=l.Nodes.length-1) (by omega)
 refine⟨vS ob.first,Ew ob.kinds,hpos,hle,fun j hj=>EX hL.inv hle hj,?_,?_⟩
 ·have e1:=N0.size gi (od (by omega))
  have e2:=hL.whole
  unfold gI at e2
  rw [show(l.Nodes.length:Int)-1=((l.Nodes.length-1:Nat):Int)from by omega,e1]at e2
  injection e2 with e2
  omega
 ·unfold l0
  rw [r3,h]
  simp only [bo,mq,jx,gE]
  have hk:cU ob.kinds j=some (Ew ob.kinds (l.Nodes.length-1)):=by
   rw [hj,show(l.Nodes.length:Int)-1=((l.Nodes.length-1:Nat):Int)from by omega,cI]
   unfold Ew
   rw [rg (by rw [hL.inv.kl];omega)];rfl
  rw [hk]
  simp only [bo]
  rw [oE _ (by have:=N0.len;omega)]
  rfl

def uL(x y:Int)(n:aa):aa:={n with A:=x,B:=y}
def EH(n:aa)(x y:Int): ∀(fu:Nat) (ok:Bool) (i:Int),dQ (uL x y n) fu ok i=dQ n fu ok i:=by
 intro fu
 induction fu with
 |zero=>intros;rfl
 |succ fu ih=>intros;simp only [dQ,ih];rfl
def ED(n:aa)(x y:Int)(a:List Int): ∀(fu:Nat) (out:List Int) (ok:Bool) (i:Int),eT (uL x y n) a fu out ok i=eT n a fu out ok i:=by
 intro fu
 induction fu with
 |zero=>intros;rfl
 |succ fu ih=>intros;simp only [eT,ih];rfl
def EF(n:aa)(x y:Int)(a:List Int): ∀(fu:Nat) (out:List Int) (i:Int),eU (uL x y n) a fu out i=eU n a fu out i:=by
 intro fu
 induction fu with
 |zero=>intros;rfl
 |succ fu ih=>intros;simp only [eU,ih,ED];rfl
def EB(n:aa)(x y:Int)(a:List Int): ∀(fu:Nat) (out:List Int) (ok:Bool) (i:Int),dB (uL x y n) a fu out ok i=dB n a fu out ok i:=by
 intro fu
 induction fu with
 |zero=>intros;rfl
 |succ fu ih=>intros;simp only [dB,ih];rfl
def Ez(n:aa)(x y:Int)(a:List Int): ∀(fu:Nat) (ok:Bool) (i:Int),dP (uL x y n) a fu ok i=dP n a fu ok i:=by
 intro fu
 induction fu with
 |zero=>intros;rfl
 |succ fu ih=>intros;simp only [dP,ih];rfl
def EI(n:aa)(x y:Int)(a b:List Int):bk (uL x y n) a b=bk n a b:=by
 unfold bk
 simp only [EH,EF,EB,Ez]
 rfl
def d1(n:aa)(a:aw):aw:=⟨a.Nodes++[uL ((a.Nodes.length:Int)-1) (-1) n]⟩
def d2(n:aa)(a b:aw):aw:=⟨(a.Nodes++b.Nodes.map (oO (a.Nodes.length:Int)))++[uL ((a.Nodes.length:Int)-1) ((a.Nodes.length:Int)+(b.Nodes.length:Int)-1) n]⟩
def ow(n:aa)(a:aw):(d1 n a).Nodes.length=a.Nodes.length+1:=by simp [d1]
def tq(n:aa)(a b:aw):(d2 n a b).Nodes.length=a.Nodes.length+b.Nodes.length+1:=by simp [d2];omega
def AV(hn:cj n)(ha:fM a):fM (d1 n a):=by
 intro m hm
 rcases p9.1 hm with h|h
 ·exact ha m h
 ·rw [jY.1 h];exact hn.at _ _
def AU(hn:cj n)(ha:fM a)(V:fM b):fM (d2 n a b):=by
 intro m hm
 rcases p9.1 hm with h|h
 ·rcases p9.1 h with h|h
  ·exact ha m h
  ·exact CZ V m h
 ·rw [jY.1 h];exact hn.at _ _
def Ax{x out:aw}(hn:cj n)(hA:n.A<=100000)(hB:n.B<=100000)(ho:fM out)(hl:out.Nodes.length<=4000)(i:Nat):gD [] i n x out=some (if bS ⟨out.Nodes++[n]⟩then(⟨out.Nodes++[n]⟩,0)else(⟨[]⟩,230)):=by
 unfold gD
 rw [pW hn,zX hA hB]
 simp only [bo]
 rw [cL (by simp;omega)]
 simp only [bo]
 have hs:fM (⟨out.Nodes++[n]⟩:aw):=by
  intro m hm
  rcases p9.1 hm with h|h
  ·exact ho m h
  ·rw [jY.1 h];exact hn
 obtain⟨_,⟨j,J⟩,_⟩:=pE hs
 have h2' :kG ({out with Nodes:=out.Nodes++[n]}:aw)=_:=J
 rw [h2']
 cases hr:bS (⟨out.Nodes++[n]⟩:aw)<;>simp
def w9(ah:sS a sz ks):a.Nodes.map (oO ((([]:List aa).length:Nat):Int))=a.Nodes:=by
 conv=>rhs;rw [<-List.map_id a.Nodes]
 refine Bn fun m hm=>?_
 obtain⟨j,hj,rfl⟩:=BO.1 hm
 obtain⟨n,F⟩:=ah.all j hj
 have hn:=F.node
 rw [cI,rg hj]at hn
 injection hn with hn
 rw [hn]
 obtain⟨hA,hB⟩:=ro F
 have hle:=ah.le
 exact zX (by omega) (by omega)
def J0(hn:cj n)(ha:fM a)(V:fM b)(hra:bS a=true)(hrb:bS b=true):np n [a,b]=some (if bS (d2 n a b)then(d2 n a b,0)else(⟨[]⟩,230)):=by
 obtain⟨sza,ksa,Ka⟩:=gL ha hra
 obtain⟨szb,ksb,Kb⟩:=gL V hrb
 have la:=Ka.le
 have lb:=Kb.le
 have pa:=Ka.pos
 have pb:=Kb.pos
 unfold np
 rw [xX ha hra (by omega) (by simp),bE (by simp),w9 Ka]
 simp only [je]
 rw [xX V hrb (by omega) (by simp;omega),bn (by decide)]
 rw [bH (n:=(a.Nodes.length:Int)-1) (by omega) (by omega),bH (by simp;omega) (by simp;omega)]
 rw [Ax]
 ·have e:(a.Nodes++b.Nodes.map (oO (a.Nodes.length:Int)))++[aa.mk n.Op ((a.Nodes.length:Int)-1) (((a.Nodes++b.Nodes.map (oO (a.Nodes.length:Int))).length:Int)-1) n.Table n.Kinds n.Left n.Cond n.Keys n.Aggs n.Items n.Order n.Limit]=(d2 n a b).Nodes:=by
   unfold d2 uL
   simp only [jO,zp,Int.natCast_add]
  simp only [e]
 ·exact hn.at _ _
 ·show(a.Nodes.length:Int)-1<=_
  omega
 ·show((a.Nodes++b.Nodes.map (oO (a.Nodes.length:Int))).length:Int)-1<=_
  simp;omega
 ·intro m hm
  rcases p9.1 hm with h|h
  ·exact ha m h
  ·exact CZ V m h
 ·simp;omega
def J1(hn:cj n)(ha:fM a)(hra:bS a=true):np n [a]=some (if bS (d1 n a)then(d1 n a,0)else(⟨[]⟩,230)):=by
 obtain⟨sza,ksa,Ka⟩:=gL ha hra
 have la:=Ka.le
 have pa:=Ka.pos
 unfold np
 rw [xX ha hra (by omega) (by simp),bE (by simp),w9 Ka]
 simp only [je]
 rw [bH (n:=(a.Nodes.length:Int)-1) (by omega) (by omega)]
 rw [Ax]
 ·rfl
 ·exact hn.at _ _
 ·show(a.Nodes.length:Int)-1<=_
  omega
 ·show(-1:Int)<=_
  omega
 ·exact ha
 ·show a.Nodes.length<=_
  omega
def QP(hj:j<a.Nodes.length):cU (d2 n a b).Nodes (j:Int)=cU a.Nodes (j:Int):=by
 rw [cI,cI]
 unfold d2
 simp only
 rw [vi (by simp;omega),vi hj]
def QO{m:aa}(hj:j<b.Nodes.length)(h:cU b.Nodes (j:Int)=some m):cU (d2 n a b).Nodes ((a.Nodes.length+j:Nat):Int)=some (oO (a.Nodes.length:Int) m):=by
 rw [cI]at h ⊢
 unfold d2
 simp only
 rw [vi (by simp;omega),qC (by omega),show a.Nodes.length+j-a.Nodes.length=j from by omega,yw,h]
 rfl
def MX:cU (d2 n a b).Nodes ((a.Nodes.length+b.Nodes.length:Nat):Int)=some (uL ((a.Nodes.length:Int)-1) ((a.Nodes.length:Int)+(b.Nodes.length:Int)-1) n):=by
 rw [cI]
 unfold d2
 simp only
 rw [qC (by simp),show a.Nodes.length+b.Nodes.length-(a.Nodes++b.Nodes.map (oO (a.Nodes.length:Int))).length=0 from by simp]
 rfl
def QQ(hj:j<a.Nodes.length):cU (d1 n a).Nodes (j:Int)=cU a.Nodes (j:Int):=by
 rw [cI,cI]
 unfold d1
 simp only
 rw [vi hj]
def Pn:cU (d1 n a).Nodes (a.Nodes.length:Int)=some (uL ((a.Nodes.length:Int)-1) (-1) n):=by
 rw [cI]
 unfold d1
 simp only
 rw [qC (dr _),xz]
 rfl
def u5(ah:sS a sz ks)(F:uN a sz ks j n)(hj:j<a.Nodes.length):oO ((0:Nat):Int) n=n:=by
 obtain⟨hA,hB⟩:=ro F
 have hle:=ah.le
 exact zX (by omega) (by omega)
def Qj{sza szb szd:Nat->Nat}{ksa ksb ksd:Nat->List Int}(Ka:sS a sza ksa)(Kb:sS b szb ksb)(Kd:sS (d2 n a b) szd ksd):bk n (ksa (a.Nodes.length-1)) (ksb (b.Nodes.length-1))=some (ksd (a.Nodes.length+b.Nodes.length),true):=by
 have la:=Ka.le
 have lb:=Kb.le
 have pa:=Ka.pos
 have pb:=Kb.pos
 have hlen:=tq n a b
 have ld:=Kd.le
 have ua:=H3 (l:=a) (d:=d2 n a b) (e:=0) (m:=a.Nodes.length) Ka.all Kd.all (dr _) (by omega) (by omega) (by omega) (fun j hj m hm=>by
  obtain⟨m',F⟩:=Ka.all j hj
  have e:m' =m:=by have:=F.node;rw [hm]at this;injection this with this;exact this.symm
  subst e
  rw [pS,QP hj,hm,u5 Ka F hj]) (a.Nodes.length-1) (by omega)
 have ub:=H3 (l:=b) (d:=d2 n a b) (e:=a.Nodes.length) (m:=b.Nodes.length) Kb.all Kd.all (dr _) (by omega) (by omega) (by omega) (fun j hj m hm=>QO hj hm) (b.Nodes.length-1) (by omega)
 obtain⟨r,F⟩:=Kd.all (a.Nodes.length+b.Nodes.length) (by omega)
 have hr:r=uL ((a.Nodes.length:Int)-1) ((a.Nodes.length:Int)+(b.Nodes.length:Int)-1) n:=by
  have:=F.node
  rw [MX]at this
  injection this with this
  exact this.symm
 subst hr
 have h:=F.kinds
 rw [EI]at h
 have eA:(uL ((a.Nodes.length:Int)-1) ((a.Nodes.length:Int)+(b.Nodes.length:Int)-1) n).A=(a.Nodes.length:Int)-1:=rfl
 have eB:(uL ((a.Nodes.length:Int)-1) ((a.Nodes.length:Int)+(b.Nodes.length:Int)-1) n).B=(a.Nodes.length:Int)+(b.Nodes.length:Int)-1:=rfl
 rw [eA,eB,bn (by omega),bn (by omega)]at h
 rw [show((a.Nodes.length:Int)-1).toNat=0+(a.Nodes.length-1)from by omega,ua.2,show((a.Nodes.length:Int)+(b.Nodes.length:Int)-1).toNat=a.Nodes.length+(b.Nodes.length-1)from by omega,ub.2]at h
 exact h

def Ix(ah:sS l sz ks):(ks (l.Nodes.length-1)).length<=16:=by
 have:=ah.pos
 obtain⟨n,F⟩:=ah.all (l.Nodes.length-1) (by omega)
 exact F.len
def LB(d:Int)(ns:List aa):tabs (ns.map (oO d))=tabs ns:=by
 induction ns with
 |nil=>rfl
 |cons n ns ih=>
  unfold tabs at*
  rw [py]
  have e:(oO d n).Op=n.Op:=rfl
  have e2:(oO d n).Table=n.Table:=rfl
  by_cases h:n.Op=1
  ·rw [DG (by rw [e];simp [h]),DG (by simp [h]),py,py,ih,e2]
  ·rw [CC (by rw [e];simp [h]),CC (by simp [h]),ih]
end Go.Proofs.YtbmmihfagmchaaaGreat

