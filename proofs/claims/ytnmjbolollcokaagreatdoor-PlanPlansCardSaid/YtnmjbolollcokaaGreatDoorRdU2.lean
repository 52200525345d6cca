/- dr of this claim: U2. -/
import Derived.Test.YtnmjbolollcokaaGreatDoorRdU1
import Derived.Test.YtnmjbolollcokaaGreatDoorRdQ2
set_option linter.all false
namespace Go.Proofs.YtnmjbolollcokaaGreatDoor
open Go

theorem By(e:bf): ∃b,mT e=some b∧(b=false→e.Nodes.length≤100):=by
 unfold mT
 by_cases h:100<e.Nodes.length
 ·rw [bS (by simp;omega)]
  exact⟨true,rfl,by simp⟩
 ·rw [bM (by simp;omega)]
  have key: ∀ns:List bq,∃b,lV ns=some b:=by
   intro ns
   induction ns with
   |nil=>exact⟨_,rfl⟩
   |cons n ns ih=>
    unfold lV
    split
    ·exact⟨_,rfl⟩
    ·exact ih
  obtain⟨b,hb⟩:=key e.Nodes
  exact⟨b,hb,fun _=>by omega⟩
theorem Lk(nx:Option Bool): ∀l:List ip,(∃b,nx=some b)→ ∃b,pI nx l=some b∧(b=false→nx=some false∧ ∀g∈l,g.Arg.Nodes.length≤100)
 |[],⟨b,h⟩=>⟨b,h,fun hb=>⟨by rw [h,hb],fun g hg=>by cases hg⟩⟩
 |g::tl,hn=>by
  unfold pI
  obtain⟨b,h1,h2⟩:=By g.Arg
  rw [h1,bC]
  cases b with
  |true=>exact⟨true,rfl,by simp⟩
  |false=>
   obtain⟨b',h3,h4⟩:=Lk nx tl hn
   exact⟨b',h3,fun hb=>⟨(h4 hb).1,fun x hx=>by
    rcases jl.1 hx with rfl|hx
    ·exact h2 rfl
    ·exact(h4 hb).2 x hx⟩⟩
theorem Ll(nx:Option Bool)(e:af)(hn: ∃b,nx=some b): ∀l:List bf,∃b,pJ nx e l=some b∧(b=false→nx=some false∧(∀g∈e.Aggs,g.Arg.Nodes.length≤100)∧ ∀x∈l,x.Nodes.length≤100)
 |[]=>by
  obtain⟨b,h1,h2⟩:=Lk nx e.Aggs hn
  exact⟨b,h1,fun hb=>⟨(h2 hb).1,(h2 hb).2,fun x hx=>by cases hx⟩⟩
 |x::tl=>by
  unfold pJ
  obtain⟨b,h1,h2⟩:=By x
  rw [h1,bC]
  cases b with
  |true=>exact⟨true,rfl,by simp⟩
  |false=>
   obtain⟨b',h3,h4⟩:=Ll nx e hn tl
   exact⟨b',h3,fun hb=>⟨(h4 hb).1,(h4 hb).2.1,fun y hy=>by
    rcases jl.1 hy with rfl|hy
    ·exact h2 rfl
    ·exact(h4 hb).2.2 y hy⟩⟩
theorem Lm: ∀l:List af,∃b,kS l=some b∧(b=false→ ∀n∈l,ku n)
 |[]=>⟨false,rfl,fun _ n hn=>by cases hn⟩
 |n::tl=>by
  unfold kS
  obtain⟨b0,i1,i2⟩:=Lm tl
  by_cases hc:(((((decide ((20:Int)<(n.Kinds.length:Int)))||(decide ((20:Int)<(n.Keys.length:Int))))||(decide ((20:Int)<(n.Order.length:Int))))||(decide ((20:Int)<(n.Items.length:Int))))||(decide ((20:Int)<(n.Aggs.length:Int))))=true
  ·rw [hc]
   exact⟨true,rfl,by simp⟩
  ·rw [zW]at hc
   rw [hc]
   simp only [HJ,Df]at hc
   obtain⟨b,h1,h2⟩:=By n.Cond
   rw [h1]
   cases b with
   |true=>exact⟨true,rfl,by simp⟩
   |false=>
    obtain⟨b',h3,h4⟩:=Ll (kS tl) n ⟨b0,i1⟩ n.Items
    refine⟨b',h3,fun hb=>?_⟩
    obtain⟨g1,g2,g3⟩:=h4 hb
    rw [i1]at g1
    have e0:b0=false:=po g1
    intro m hm
    rcases jl.1 hm with rfl|hm
    ·have:=h2 rfl
     exact⟨by omega,by omega,by omega,by omega,by omega,by omega,fun g hg=>by have:=g2 g hg;omega,fun e he=>by have:=g3 e he;omega⟩
    ·exact i2 e0 m hm
theorem QN(l:List af): ∃b,wr l=some b∧(b=false→l.length≤65∧ ∀n∈l,ku n):=by
 unfold wr
 by_cases h:65<l.length
 ·rw [bS (by simp;omega)]
  exact⟨true,rfl,by simp⟩
 ·rw [bM (by simp;omega)]
  obtain⟨b,h1,h2⟩:=Lm l
  exact⟨b,h1,fun hb=>⟨by omega,h2 hb⟩⟩
theorem Gy:xK=some true:=by kernel_rfl
def sG(n:Nat):List Int:=(List.range n).map fun i:Nat=>(i:Int)
theorem FT(n:Nat):sG (n+1)=sG n++[(n:Int)]:=by unfold sG;rw [List.range_succ,Dh];rfl
theorem pK(n:Nat):(sG n).length=n:=by simp [sG]
theorem La(n:Nat)(hn:n≤100000): ∀(k j fu:Nat),j+k=n→k<fu→o4 (n:Int) fu (sG j) (j:Int)=some (sG n)
 |k,j,0,_,h=>by omega
 |0,j,fu+1,hj,_=>by
  unfold o4
  rw [bM (by simp;omega),show j=n by omega]
 |k+1,j,fu+1,hj,hf=>by
  unfold o4
  rw [bS (by simp;omega),cP (by rw [pK];simp;omega),bC,←FT,cA (by omega) (by omega)]
  exact La n hn k (j+1) fu (by omega) (by omega)
theorem Lb(n:Nat)(hn:n≤100000):tJ (n:Int)=some (sG n):=La n hn n 0 cZ (by omega) (iF (by omega))
end Go.Proofs.YtnmjbolollcokaaGreatDoor

