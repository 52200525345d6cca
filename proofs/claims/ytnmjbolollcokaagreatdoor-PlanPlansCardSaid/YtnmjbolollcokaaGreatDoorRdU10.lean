/- dr of this claim: U10. -/
import Derived.Test.YtnmjbolollcokaaGreatDoorRdU9
set_option linter.all false
namespace Go.Proofs.YtnmjbolollcokaaGreatDoor
open Go

theorem CV{a:af}(h:Eu a):qy a a=some true:=by
 have hA:=h.1
 have hO:=h.2
 unfold qy
 rw [bM (by simp),bS (by simp),pm,pm]
 simp only [bC,oh,Bb,mA,ji,jW]
 have EY: ∀(tl:List mB) (i fu:Nat),a.Order.drop i=tl→i+tl.length=a.Order.length→tl.length<fu→jZ a a fu (i:Int)=some true:=by
  intro tl
  induction tl with
  |nil=>
   intro i fu hd hi hf
   obtain⟨fu,rfl⟩: ∃k,fu=k+1:=⟨fu-1,by omega⟩
   simp only [sN,yD]at hi
   rw [jZ,bM (by simp;omega),sR,zA]
   rfl
  |cons x tl ih=>
   intro i fu hd hi hf
   simp only [iR]at hi hf
   obtain⟨fu,rfl⟩: ∃k,fu=k+1:=⟨fu-1,by omega⟩
   obtain⟨h1,h2,h3⟩:=ie hd
   rw [jZ,bS (by simp;omega),h1]
   simp only [bC,decide_true,oh,mA,ji]
   rw [cA (by omega) (by omega),show((i:Int)+1)=((i+1:Nat):Int)from by omega]
   exact ih (i+1) fu h3 (by omega) (by omega)
 have key1: ∀(tl:List ip) (i fu:Nat),a.Aggs.drop i=tl→i+tl.length=a.Aggs.length→tl.length<fu→j3 a a fu (i:Int)=some true:=by
  intro tl
  induction tl with
  |nil=>
   intro i fu hd hi hf
   obtain⟨fu,rfl⟩: ∃k,fu=k+1:=⟨fu-1,by omega⟩
   simp only [sN,yD]at hi
   rw [j3,bM (by simp;omega)]
   exact EY a.Order 0 cZ rfl (by simp) (iF (by omega))
  |cons x tl ih=>
   intro i fu hd hi hf
   simp only [iR]at hi hf
   obtain⟨fu,rfl⟩: ∃k,fu=k+1:=⟨fu-1,by omega⟩
   obtain⟨h1,h2,h3⟩:=ie hd
   rw [j3,bS (by simp;omega),h1]
   simp only [bC,bne_self_eq_false,Bb,jW,sR,oh,mA,ji]
   rw [cA (by omega) (by omega),show((i:Int)+1)=((i+1:Nat):Int)from by omega]
   exact ih (i+1) fu h3 (by omega) (by omega)
 exact key1 a.Aggs 0 cZ rfl (by simp) (iF (by omega))
theorem Jm{a:bR}(h: ∀n∈a.Nodes,Eu n)(hl:a.Nodes.length≤5000):wd a a=some true:=by
 unfold wd
 rw [bM (by simp)]
 have key: ∀(tl:List af) (i fu:Nat),a.Nodes.drop i=tl→i+tl.length=a.Nodes.length→tl.length<fu→(∀n∈tl,Eu n)→nO a a fu (i:Int)=some true:=by
  intro tl
  induction tl with
  |nil=>
   intro i fu hd hi hf _
   obtain⟨fu,rfl⟩: ∃k,fu=k+1:=⟨fu-1,by omega⟩
   simp only [sN,yD]at hi
   rw [nO,bM (by simp;omega)]
  |cons x tl ih=>
   intro i fu hd hi hf hs
   simp only [iR]at hi hf
   obtain⟨fu,rfl⟩: ∃k,fu=k+1:=⟨fu-1,by omega⟩
   obtain⟨h1,h2,h3⟩:=ie hd
   rw [nO,bS (by simp;omega),h1]
   simp only [bC]
   rw [CV (hs x (iA ..))]
   simp only [bC,oh,mA,ji]
   rw [cA (by omega) (by omega),show((i:Int)+1)=((i+1:Nat):Int)from by omega]
   exact ih (i+1) fu h3 (by omega) (by omega) (fun n hn=>hs n (pS _ hn))
 exact key a.Nodes 0 cZ rfl (by simp) (iF (by omega)) h
theorem Jl(p:dp)(hp:p.Frags.length≤100)(hs: ∀f∈p.Frags,f.Nodes.length≤60∧ ∀n∈f.Nodes,Eu n): ∀(tl:List bK) (i fu:Nat),p.Frags.drop i=tl→tl.length<fu→jY p p fu (i:Int)=some true:=by
 intro tl
 induction tl with
 |nil=>
  intro i fu hd hf
  obtain⟨fu,rfl⟩: ∃m,fu=m+1:=⟨fu-1,by omega⟩
  have h0:p.Frags.length≤i:=zY.1 hd
  unfold jY
  rw [bM (by simp;omega)]
 |cons f tl ih=>
  intro i fu hd hf
  simp only [iR]at hf
  obtain⟨fu,rfl⟩: ∃m,fu=m+1:=⟨fu-1,by omega⟩
  obtain⟨h1,h2,h3⟩:=ie hd
  have hfm:f∈p.Frags:=by rw [cQ]at h1;exact ta h1
  obtain⟨hl,hn⟩:=hs f hfm
  unfold jY
  rw [bS (by simp;omega),h1,bC,bC,bS (by simp),pm,bC,bC,bS (by rfl),Jm (a:=⟨f.Nodes⟩) hn (by show f.Nodes.length≤5000;omega),bC,bC,bM (by decide),cA (by omega) (by omega)]
  exact ih (i+1) fu h3 (by omega)
theorem E4(p:dp)(hp:p.Frags.length≤100)(hs: ∀f∈p.Frags,f.Nodes.length≤60∧ ∀n∈f.Nodes,Eu n):oA p p=some true:=by
 unfold oA
 rw [bM (by simp)]
 exact Jl p hp hs p.Frags 0 cZ rfl (iF (by omega))
theorem DY(l:bR)(c:ce):sW l c=some true:=by
 unfold sW
 rw [Gy,bC,bM (by simp)]
 obtain⟨b,h1,h2⟩:=QN l.Nodes
 obtain⟨o,h3,h4⟩:=CL c
 rw [h1,bC,h3]
 cases b with
 |true=>rfl
 |false=>
  cases o with
  |true=>rfl
  |false=>
   rw [bS (by rfl),bC,bC,bM (by decide)]
   obtain⟨hl,hS⟩:=h2 rfl
   obtain⟨ht,hc⟩:=h4 rfl
   have key: ∀r:dp×Int,r.1.Frags.length≤100→(∀f∈r.1.Frags,f.Nodes.length≤60∧ ∀n∈f.Nodes,Eu n)→qk l c=some r→pW l c=some r→((qk l c).bind fun r3=>(pW l c).bind fun r4=>(if(r3.2==r4.2)then((oA r3.1 r4.1).bind fun r5=>some r5)else some false).bind fun t1=>some t1)=some true:=by
    intro r k1 k2 e1 e2
    rw [e1,e2,bC,bC,bS (by simp),E4 r.1 k1 k2]
    rfl
   rcases MO hl hS ht hc with⟨e,_,e1,e2⟩|⟨s,fs,hs,hG,hf,hn,e1,e2⟩
   ·exact key _ (by simp) (by simp) e1 e2
   ·refine key _ (by simp;omega) ?_ e1 e2
    intro f hfm
    refine⟨hn f hfm,?_⟩
    rcases wT.1 hfm with h|h
    ·obtain⟨k,hk,rfl⟩:=List.mem_iff_getElem.1 h
     exact hG.sm k _ (iP _) (q6 hk)
    ·rw [tQ.1 h];exact hs.sm
end Go.Proofs.YtnmjbolollcokaaGreatDoor

