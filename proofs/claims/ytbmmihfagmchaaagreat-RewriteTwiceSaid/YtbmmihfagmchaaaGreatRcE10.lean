/- cW of this claim: E10. -/
import Derived.Test.YtbmmihfagmchaaaGreatRcE9
set_option linter.all false
namespace Go.Proofs.YtbmmihfagmchaaaGreat
open Go

def Af:li=bz (gi-1+1):=by
 unfold li
 congr 1
def CK{t r:am}{b:Bool}(h: ∀f n z,60+1<=f->60+5<=n->dN (bz f) n t z=some (r,b)):kN t=some (r,b):=by
 unfold kN j8 li
 exact h gi gi _ (i6 (by omega)) (i6 (by omega))
def OB{n:aa}{p r:am}(hp:nh p)(hr:nh r)(hn:cj n)(h:bS (d1 n p.Logic)=true)(h' :bS (d1 n r.Logic)=true)(k:KS p r):KS (aS n p) (aS n r):=by
 obtain⟨a1,a2⟩:=oY hp hn h
 obtain⟨b1,_⟩:=oY hr hn h'
 rw [k.kinds,a1]at b1
 injection b1 with b1
 injection b1 with b1 _
 exact⟨b1.symm,by rw [wu a2.2.1,wu a2.2.1,k.tabs],fun hu=>by
  rw [sk]at hu ⊢
  simp only [yZ]at hu ⊢
  exact⟨k.safe hu.1,hu.2⟩⟩
def OA{n:aa}{p q r s:am}(hp:nh p)(hq:nh q)(hr:nh r)(hs:nh s)(hn:cj n)(h:bS (d2 n p.Logic q.Logic)=true)(h' :bS (d2 n r.Logic s.Logic)=true)(k:KS p r)(k' :KS q s):KS (cr n p q) (cr n r s):=by
 obtain⟨a1,a2⟩:=x8 hp hq hn h
 obtain⟨b1,_⟩:=x8 hr hs hn h'
 rw [k.kinds,k'.kinds,a1]at b1
 injection b1 with b1
 injection b1 with b1 _
 have ho:n.Op≠1:=by omega
 exact⟨b1.symm,by rw [Ds ho,Ds ho,k.tabs,k'.tabs],fun hu=>by
  rw [GQ]at hu ⊢
  simp only [yZ]at hu ⊢
  exact⟨⟨k.safe hu.1.1,k'.safe hu.1.2⟩,hu.2⟩⟩
def MW{t:am}(h:nh t): ∃r b,(∀fu,t.Logic.Nodes.length<=fu->cF fu t=some (r,b))/\(b=true->NF r/\KS t r):=by
 induction h with
 |leaf r hs hA hB hr=>
  have hT:nh ⟨⟨[r]⟩,r,[]⟩:= .leaf r hs hA hB hr
  refine⟨⟨⟨[r]⟩,r,[]⟩,true,fun fu X=>?_,fun _=>⟨.mk _ hT (fun p hp=>by cases hp) ?_,KS.refl _⟩⟩
  ·have hf' :1<=fu:=X
   match fu,hf' with
   |fu+1,_=>rfl
  ·rcases uo hT with⟨Y,_⟩|⟨n,p,_,_,_,e,_⟩|⟨n,p,q,_,_,_,_,e,_⟩
   ·exact sJ (by omega) (by omega) (by omega)
   ·exact absurd (congrArg am.parts e) (by simp [aS])
   ·exact absurd (congrArg am.parts e) (by simp [cr])
 |one n p hp hs hr ih=>
  obtain⟨r,b,Y,J⟩:=ih
  have hl:(aS n p).Logic.Nodes.length=p.Logic.Nodes.length+1:=ow _ _
  have hsa:cj (aS n p).root:=hs.at _ _
  have step: ∀fu,(aS n p).Logic.Nodes.length<=fu->cF fu (aS n p)=if(!b)then some (aS n p,false)else(d9 (aS n p).root [r]).bind fun r=>if(!r.2)then some (aS n p,false)else(kN r.1).bind fun r1=>some (r1.1,r1.2):=fun fu X=>by
   match fu,(by omega:1<=fu)with
   |fu+1,_=>
    unfold cF
    rw [bn (by show¬(((1:Nat):Int)==0)=true;decide),show(aS n p).parts=[p]from rfl]
    unfold cZ
    rw [Y fu (by omega),bo]
    cases b with
    |false=>rfl
    |true=>
     rw [bn (show¬((!true)=true) by decide),bn (show¬((!true)=true) by decide),show jT ([]:List am) [r]=some [r]from rfl,bo]
     rfl
  cases b with
  |false=>exact⟨aS n p,false,fun fu X=>by rw [step fu X];rfl,fun k=>by cases k⟩
  |true=>
   obtain⟨N,ah⟩:=J rfl
   rw [sH N.tok hsa]at step
   have ed:d1 (aS n p).root r.Logic=d1 n r.Logic:=rfl
   have et:aS (aS n p).root r=aS n r:=rfl
   rw [ed,et]at step
   cases hR:bS (d1 n r.Logic)with
   |false=>exact⟨aS n p,false,fun fu X=>by rw [step fu X,hR];rfl,fun k=>by cases k⟩
   |true=>
    have hT:nh (aS n r):= .one n r N.tok hs hR
    obtain⟨r',b',g1,g2⟩:=zO 60 (by omega) (aS n r) hT hT.len.2 (fun q hq=>by rw [jY.1 hq];exact N)
    refine⟨r',b',fun fu X=>?_,fun V=>⟨(g2 V).1,(OB hp N.tok hs hr hR ah).trans (g2 V).2⟩⟩
    rw [step fu X,hR]
    simp only [gu,bo]
    rw [CK g1]
    rfl
 |two n p q hp hq hs hr ih1 ih2=>
  obtain⟨r,b,Y,J⟩:=ih1
  obtain⟨s,c,i1,i2⟩:=ih2
  have hl:(cr n p q).Logic.Nodes.length=p.Logic.Nodes.length+q.Logic.Nodes.length+1:=tq _ _ _
  have hsa:cj (cr n p q).root:=hs.at _ _
  have step: ∀fu,(cr n p q).Logic.Nodes.length<=fu->cF fu (cr n p q)=if(!b)then some (cr n p q,false)else if(!c)then some (cr n p q,false)else(d9 (cr n p q).root [r,s]).bind fun r=>if(!r.2)then some (cr n p q,false)else(kN r.1).bind fun r1=>some (r1.1,r1.2):=fun fu X=>by
   match fu,(by omega:1<=fu)with
   |fu+1,_=>
    unfold cF
    rw [bn (by show¬(((2:Nat):Int)==0)=true;decide),show(cr n p q).parts=[p,q]from rfl]
    unfold cZ
    rw [Y fu (by omega),bo]
    cases b with
    |false=>rfl
    |true=>
     rw [bn (show¬((!true)=true) by decide),bn (show¬((!true)=true) by decide),show jT ([]:List am) [r]=some [r]from rfl,bo]
     unfold cZ
     rw [i1 fu (by omega),bo]
     cases c with
     |false=>rfl
     |true=>
      rw [bn (show¬((!true)=true) by decide),bn (show¬((!true)=true) by decide),show jT [r] [s]=some [r,s]from rfl,bo]
      rfl
  cases b with
  |false=>exact⟨cr n p q,false,fun fu X=>by rw [step fu X];rfl,fun k=>by cases k⟩
  |true=>
   cases c with
   |false=>exact⟨cr n p q,false,fun fu X=>by rw [step fu X];rfl,fun k=>by cases k⟩
   |true=>
    obtain⟨N,ah⟩:=J rfl
    obtain⟨N',K'⟩:=i2 rfl
    rw [wU N.tok N'.tok hsa]at step
    have ed:d2 (cr n p q).root r.Logic s.Logic=d2 n r.Logic s.Logic:=rfl
    have et:cr (cr n p q).root r s=cr n r s:=rfl
    rw [ed,et]at step
    cases hR:bS (d2 n r.Logic s.Logic)with
    |false=>exact⟨cr n p q,false,fun fu X=>by rw [step fu X,hR];rfl,fun k=>by cases k⟩
    |true=>
     have hT:nh (cr n r s):= .two n r s N.tok N'.tok hs hR
     obtain⟨r',b',g1,g2⟩:=zO 60 (by omega) (cr n r s) hT hT.len.2 (fun v hv=>by
      rcases gB.1 hv with rfl|hv
      ·exact N
      ·rw [jY.1 hv];exact N')
     refine⟨r',b',fun fu X=>?_,fun V=>⟨(g2 V).1,(OA hp hq N.tok N'.tok hs hr hR ah K').trans (g2 V).2⟩⟩
     rw [step fu X,hR]
     simp only [mq,jx,gE,gu,bo]
     rw [CK g1]
     rfl
def zl: ∀(k:Nat) {t:am},NF t->t.Logic.Nodes.length<=k-> ∀fu,k<=fu->cF fu t=some (t,true)
 |0,t,h,hl,_,_=>by have:=h.tok.len;omega
 |k+1,t,h,hl,fu,X=>by
  match fu,(by omega:1<=fu)with
  |fu+1,_=>
   have tops:kN t=some (t,true):=CK (fun f n z X hn=>by
    obtain⟨f,rfl⟩: ∃g,f=g+1:=⟨f-1,by omega⟩
    obtain⟨n,rfl⟩: ∃g,n=g+1:=⟨n-1,by omega⟩
    exact C0 h f n z)
   rcases uo h.tok with⟨_,Y⟩|⟨n,p,hp,hs,hr,rfl,_⟩|⟨n,p,q,hp,hq,hs,hr,rfl,_⟩
   ·unfold cF
    rw [Y];rfl
   ·have hl' :(aS n p).Logic.Nodes.length=p.Logic.Nodes.length+1:=ow _ _
    have g:=zl k (h.sub p (by show p∈[p];simp)) (by omega) fu (by omega)
    have hsa:cj (aS n p).root:=hs.at _ _
    unfold cF
    rw [bn (by show¬(((1:Nat):Int)==0)=true;decide),show(aS n p).parts=[p]from rfl]
    unfold cZ
    rw [g,bo,bn (show¬((!true)=true) by decide),show jT ([]:List am) [p]=some [p]from rfl,bo]
    unfold cZ
    rw [sH hp hsa,show d1 (aS n p).root p.Logic=d1 n p.Logic from rfl,hr,show aS (aS n p).root p=aS n p from rfl,bE rfl,bo,bn (by simp),tops]
    rfl
   ·have hl' :(cr n p q).Logic.Nodes.length=p.Logic.Nodes.length+q.Logic.Nodes.length+1:=tq _ _ _
    have lp:=hp.len
    have lq:=hq.len
    have g:=zl k (h.sub p (by show p∈[p,q];simp)) (by omega) fu (by omega)
    have g' :=zl k (h.sub q (by show q∈[p,q];simp)) (by omega) fu (by omega)
    have hsa:cj (cr n p q).root:=hs.at _ _
    unfold cF
    rw [bn (by show¬(((2:Nat):Int)==0)=true;decide),show(cr n p q).parts=[p,q]from rfl]
    unfold cZ
    rw [g,bo,bn (show¬((!true)=true) by decide),show jT ([]:List am) [p]=some [p]from rfl,bo]
    unfold cZ
    rw [g',bo,bn (show¬((!true)=true) by decide),show jT [p] [q]=some [p,q]from rfl,bo]
    unfold cZ
    rw [wU hp hq hsa,show d2 (cr n p q).root p.Logic q.Logic=d2 n p.Logic q.Logic from rfl,hr,show cr (cr n p q).root p q=cr n p q from rfl,bE rfl,bo,bn (by simp),tops]
    rfl
def FU{l:aw}(hS:fM l)(h:bS l=false):ec l=some (⟨[]⟩,230):=by
 obtain⟨_,⟨j,r2⟩,_⟩:=pE hS
 unfold ec
 rw [r2,h]
 rfl
def FV{t:am}(h:nh t): ∃r b,ec t.Logic=some (if b then r.Logic else t.Logic,0)/\(b=true->NF r/\KS t r):=by
 obtain⟨r,b,Y,J⟩:=MW h
 obtain⟨_,⟨j,r2⟩,_⟩:=pE h.ok.1
 refine⟨r,b,?_,J⟩
 unfold ec
 rw [r2,h.ok.2,bE rfl,bo,bn (by decide),xn h,bo]
 unfold lJ
 rw [Y gi (i6 (by have:=h.len;omega)),bo]
 cases b<;>rfl
def FW{t:am}(h:NF t):ec t.Logic=some (t.Logic,0)/\lU t.Logic=some (t.Logic,false,0):=by
 obtain⟨_,⟨j,r2⟩,_⟩:=pE h.tok.ok.1
 have hl:=h.tok.len
 refine⟨?_,?_⟩
 ·unfold ec
  rw [r2,h.tok.ok.2,bE rfl,bo,bn (by decide),xn h.tok,bo]
  unfold lJ
  rw [zl 60 h hl.2 gi (i6 (by omega)),bo]
  rfl
 ·unfold lU
  rw [r2,h.tok.ok.2,bE rfl,bo,bn (by decide),xn h.tok,bo]
  unfold pf
  rw [Af,h.none (gi-1) false,bo]
  rfl
end Go.Proofs.YtbmmihfagmchaaaGreat

