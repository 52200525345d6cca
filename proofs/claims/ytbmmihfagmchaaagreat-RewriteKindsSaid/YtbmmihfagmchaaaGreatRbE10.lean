/- cP of this claim: E10. -/
import Derived.Test.YtbmmihfagmchaaaGreatRbE9
set_option linter.all false
namespace Go.Proofs.YtbmmihfagmchaaaGreat
open Go

def G2{t r:am}{b:Bool}(h: ∀f n z,60+1<=f->60+5<=n->dE (bG f) n t z=some (r,b)):mh t=some (r,b):=by
 unfold mh jV o9
 exact h fQ fQ _ (jk (by omega)) (jk (by omega))
def OD{n:aa}{p r:am}(hp:ou p)(hr:ou r)(hn:ck n)(h:bQ (d1 n p.Logic)=true)(h' :bQ (d1 n r.Logic)=true)(k:KS p r):KS (be n p) (be n r):=by
 obtain⟨a1,a2⟩:=qR hp hn h
 obtain⟨b1,_⟩:=qR hr hn h'
 rw [k.kinds,a1]at b1
 injection b1 with b1
 injection b1 with b1 _
 exact⟨b1.symm,by rw [wj a2.2.1,wj a2.2.1,k.tabs],fun hu=>by
  rw [rY]at hu ⊢
  simp only [yZ]at hu ⊢
  exact⟨k.safe hu.1,hu.2⟩⟩
def OC{n:aa}{p q r s:am}(hp:ou p)(hq:ou q)(hr:ou r)(hs:ou s)(hn:ck n)(h:bQ (d2 n p.Logic q.Logic)=true)(h' :bQ (d2 n r.Logic s.Logic)=true)(k:KS p r)(k' :KS q s):KS (cO n p q) (cO n r s):=by
 obtain⟨a1,a2⟩:=At hp hq hn h
 obtain⟨b1,_⟩:=At hr hs hn h'
 rw [k.kinds,k'.kinds,a1]at b1
 injection b1 with b1
 injection b1 with b1 _
 have ho:n.Op≠1:=by omega
 exact⟨b1.symm,by rw [Dj ho,Dj ho,k.tabs,k'.tabs],fun hu=>by
  rw [GK]at hu ⊢
  simp only [yZ]at hu ⊢
  exact⟨⟨k.safe hu.1.1,k'.safe hu.1.2⟩,hu.2⟩⟩
def M0{t:am}(h:ou t): ∃r b,(∀fu,t.Logic.Nodes.length<=fu->dW fu t=some (r,b))/\(b=true->NF r/\KS t r):=by
 induction h with
 |leaf r hs hA hB hr=>
  have hT:ou ⟨⟨[r]⟩,r,[]⟩:= .leaf r hs hA hB hr
  refine⟨⟨⟨[r]⟩,r,[]⟩,true,fun fu X=>?_,fun _=>⟨.mk _ hT (fun p hp=>by cases hp) ?_,KS.refl _⟩⟩
  ·have hf' :1<=fu:=X
   match fu,hf' with
   |fu+1,_=>rfl
  ·rcases zP hT with⟨Y,_⟩|⟨n,p,_,_,_,e,_⟩|⟨n,p,q,_,_,_,_,e,_⟩
   ·exact sv (by omega) (by omega) (by omega)
   ·exact absurd (congrArg am.parts e) (by simp [be])
   ·exact absurd (congrArg am.parts e) (by simp [cO])
 |one n p hp hs hr ih=>
  obtain⟨r,b,Y,J⟩:=ih
  have hl:(be n p).Logic.Nodes.length=p.Logic.Nodes.length+1:=o0 _ _
  have hsa:ck (be n p).root:=hs.at _ _
  have step: ∀fu,(be n p).Logic.Nodes.length<=fu->dW fu (be n p)=if(!b)then some (be n p,false)else(dV (be n p).root [r]).bind fun r=>if(!r.2)then some (be n p,false)else(mh r.1).bind fun r1=>some (r1.1,r1.2):=fun fu X=>by
   match fu,(by omega:1<=fu)with
   |fu+1,_=>
    unfold dW
    rw [bo (by show¬(((1:Nat):Int)==0)=true;decide),show(be n p).parts=[p]from rfl]
    unfold ge
    rw [Y fu (by omega),bt]
    cases b with
    |false=>rfl
    |true=>
     rw [bo (show¬((!true)=true) by decide),bo (show¬((!true)=true) by decide),show jp ([]:List am) [r]=some [r]from rfl,bt]
     rfl
  cases b with
  |false=>exact⟨be n p,false,fun fu X=>by rw [step fu X];rfl,fun k=>by cases k⟩
  |true=>
   obtain⟨N,af⟩:=J rfl
   rw [wM N.tok hsa]at step
   have ed:d1 (be n p).root r.Logic=d1 n r.Logic:=rfl
   have et:be (be n p).root r=be n r:=rfl
   rw [ed,et]at step
   cases hR:bQ (d1 n r.Logic)with
   |false=>exact⟨be n p,false,fun fu X=>by rw [step fu X,hR];rfl,fun k=>by cases k⟩
   |true=>
    have hT:ou (be n r):= .one n r N.tok hs hR
    obtain⟨r',b',g1,g2⟩:=zK 60 (by omega) (be n r) hT hT.len.2 (fun q hq=>by rw [jL.1 hq];exact N)
    refine⟨r',b',fun fu X=>?_,fun V=>⟨(g2 V).1,(OD hp N.tok hs hr hR af).trans (g2 V).2⟩⟩
    rw [step fu X,hR]
    simp only [fP,bt]
    rw [G2 g1]
    rfl
 |two n p q hp hq hs hr ih1 ih2=>
  obtain⟨r,b,Y,J⟩:=ih1
  obtain⟨s,c,i1,i2⟩:=ih2
  have hl:(cO n p q).Logic.Nodes.length=p.Logic.Nodes.length+q.Logic.Nodes.length+1:=uz _ _ _
  have hsa:ck (cO n p q).root:=hs.at _ _
  have step: ∀fu,(cO n p q).Logic.Nodes.length<=fu->dW fu (cO n p q)=if(!b)then some (cO n p q,false)else if(!c)then some (cO n p q,false)else(dV (cO n p q).root [r,s]).bind fun r=>if(!r.2)then some (cO n p q,false)else(mh r.1).bind fun r1=>some (r1.1,r1.2):=fun fu X=>by
   match fu,(by omega:1<=fu)with
   |fu+1,_=>
    unfold dW
    rw [bo (by show¬(((2:Nat):Int)==0)=true;decide),show(cO n p q).parts=[p,q]from rfl]
    unfold ge
    rw [Y fu (by omega),bt]
    cases b with
    |false=>rfl
    |true=>
     rw [bo (show¬((!true)=true) by decide),bo (show¬((!true)=true) by decide),show jp ([]:List am) [r]=some [r]from rfl,bt]
     unfold ge
     rw [i1 fu (by omega),bt]
     cases c with
     |false=>rfl
     |true=>
      rw [bo (show¬((!true)=true) by decide),bo (show¬((!true)=true) by decide),show jp [r] [s]=some [r,s]from rfl,bt]
      rfl
  cases b with
  |false=>exact⟨cO n p q,false,fun fu X=>by rw [step fu X];rfl,fun k=>by cases k⟩
  |true=>
   cases c with
   |false=>exact⟨cO n p q,false,fun fu X=>by rw [step fu X];rfl,fun k=>by cases k⟩
   |true=>
    obtain⟨N,af⟩:=J rfl
    obtain⟨N',K'⟩:=i2 rfl
    rw [D7 N.tok N'.tok hsa]at step
    have ed:d2 (cO n p q).root r.Logic s.Logic=d2 n r.Logic s.Logic:=rfl
    have et:cO (cO n p q).root r s=cO n r s:=rfl
    rw [ed,et]at step
    cases hR:bQ (d2 n r.Logic s.Logic)with
    |false=>exact⟨cO n p q,false,fun fu X=>by rw [step fu X,hR];rfl,fun k=>by cases k⟩
    |true=>
     have hT:ou (cO n r s):= .two n r s N.tok N'.tok hs hR
     obtain⟨r',b',g1,g2⟩:=zK 60 (by omega) (cO n r s) hT hT.len.2 (fun v hv=>by
      rcases fT.1 hv with rfl|hv
      ·exact N
      ·rw [jL.1 hv];exact N')
     refine⟨r',b',fun fu X=>?_,fun V=>⟨(g2 V).1,(OC hp hq N.tok N'.tok hs hr hR af K').trans (g2 V).2⟩⟩
     rw [step fu X,hR]
     simp only [nC,kP,iB,fP,bt]
     rw [G2 g1]
     rfl
def FR{l:aw}(hS:eu l)(h:bQ l=false):gK l=some (⟨[]⟩,230):=by
 obtain⟨_,⟨j,r2⟩,_⟩:=nP hS
 unfold gK
 rw [r2,h]
 rfl
def FS{t:am}(h:ou t): ∃r b,gK t.Logic=some (if b then r.Logic else t.Logic,0)/\(b=true->NF r/\KS t r):=by
 obtain⟨r,b,Y,J⟩:=M0 h
 obtain⟨_,⟨j,r2⟩,_⟩:=nP h.ok.1
 refine⟨r,b,?_,J⟩
 unfold gK
 rw [r2,h.ok.2,bD rfl,bt,bo (by decide),K5 h,bt]
 unfold nQ
 rw [Y fQ (jk (by have:=h.len;omega)),bt]
 cases b<;>rfl
end Go.Proofs.YtbmmihfagmchaaaGreat

