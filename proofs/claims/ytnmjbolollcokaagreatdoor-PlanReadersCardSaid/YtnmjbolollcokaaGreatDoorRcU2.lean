/- cR of this claim: U2. -/
import Derived.Test.YtnmjbolollcokaaGreatDoorRcU1
import Derived.Test.YtnmjbolollcokaaGreatDoorRcQ2
set_option linter.all false
namespace Go.Proofs.YtnmjbolollcokaaGreatDoor
open Go

theorem zU(e:aT): ∃b,kJ e=some b∧(b=false→e.Nodes.length≤100):=by
 unfold kJ
 by_cases h:100<e.Nodes.length
 ·rw [bm (by simp;omega)]
  exact⟨true,rfl,by simp⟩
 ·rw [bg (by simp;omega)]
  have key: ∀ns:List aU,∃b,jY ns=some b:=by
   intro ns
   induction ns with
   |nil=>exact⟨_,rfl⟩
   |cons n ns ih=>
    unfold jY
    split
    ·exact⟨_,rfl⟩
    ·exact ih
  obtain⟨b,hb⟩:=key e.Nodes
  exact⟨b,hb,fun _=>by omega⟩
theorem J1(nx:Option Bool): ∀l:List gF,(∃b,nx=some b)→ ∃b,m7 nx l=some b∧(b=false→nx=some false∧ ∀g∈l,g.Arg.Nodes.length≤100)
 |[],⟨b,h⟩=>⟨b,h,fun hb=>⟨by rw [h,hb],fun g hg=>by cases hg⟩⟩
 |g::tl,hn=>by
  unfold m7
  obtain⟨b,h1,h2⟩:=zU g.Arg
  rw [h1,be]
  cases b with
  |true=>exact⟨true,rfl,by simp⟩
  |false=>
   obtain⟨b',h3,h4⟩:=J1 nx tl hn
   exact⟨b',h3,fun hb=>⟨(h4 hb).1,fun x hx=>by
    rcases gz.1 hx with rfl|hx
    ·exact h2 rfl
    ·exact(h4 hb).2 x hx⟩⟩
theorem J2(nx:Option Bool)(e:M)(hn: ∃b,nx=some b): ∀l:List aT,∃b,m8 nx e l=some b∧(b=false→nx=some false∧(∀g∈e.Aggs,g.Arg.Nodes.length≤100)∧ ∀x∈l,x.Nodes.length≤100)
 |[]=>by
  obtain⟨b,h1,h2⟩:=J1 nx e.Aggs hn
  exact⟨b,h1,fun hb=>⟨(h2 hb).1,(h2 hb).2,fun x hx=>by cases hx⟩⟩
 |x::tl=>by
  unfold m8
  obtain⟨b,h1,h2⟩:=zU x
  rw [h1,be]
  cases b with
  |true=>exact⟨true,rfl,by simp⟩
  |false=>
   obtain⟨b',h3,h4⟩:=J2 nx e hn tl
   exact⟨b',h3,fun hb=>⟨(h4 hb).1,(h4 hb).2.1,fun y hy=>by
    rcases gz.1 hy with rfl|hy
    ·exact h2 rfl
    ·exact(h4 hb).2.2 y hy⟩⟩
theorem J3: ∀l:List M,∃b,i9 l=some b∧(b=false→ ∀n∈l,iD n)
 |[]=>⟨false,rfl,fun _ n hn=>by cases hn⟩
 |n::tl=>by
  unfold i9
  obtain⟨b0,i1,i2⟩:=J3 tl
  by_cases hc:(((((decide ((20:Int)<(n.Kinds.length:Int)))||(decide ((20:Int)<(n.Keys.length:Int))))||(decide ((20:Int)<(n.Order.length:Int))))||(decide ((20:Int)<(n.Items.length:Int))))||(decide ((20:Int)<(n.Aggs.length:Int))))=true
  ·rw [hc]
   exact⟨true,rfl,by simp⟩
  ·rw [yc]at hc
   rw [hc]
   simp only [Gb,BG]at hc
   obtain⟨b,h1,h2⟩:=zU n.Cond
   rw [h1]
   cases b with
   |true=>exact⟨true,rfl,by simp⟩
   |false=>
    obtain⟨b',h3,h4⟩:=J2 (i9 tl) n ⟨b0,i1⟩ n.Items
    refine⟨b',h3,fun hb=>?_⟩
    obtain⟨g1,g2,g3⟩:=h4 hb
    rw [i1]at g1
    have e0:b0=false:=nV g1
    intro m hm
    rcases gz.1 hm with rfl|hm
    ·have:=h2 rfl
     exact⟨by omega,by omega,by omega,by omega,by omega,by omega,fun g hg=>by have:=g2 g hg;omega,fun e he=>by have:=g3 e he;omega⟩
    ·exact i2 e0 m hm
theorem O7(l:List M): ∃b,uD l=some b∧(b=false→l.length≤65∧ ∀n∈l,iD n):=by
 unfold uD
 by_cases h:65<l.length
 ·rw [bm (by simp;omega)]
  exact⟨true,rfl,by simp⟩
 ·rw [bg (by simp;omega)]
  obtain⟨b,h1,h2⟩:=J3 l
  exact⟨b,h1,fun hb=>⟨by omega,h2 hb⟩⟩
theorem EQ:vQ=some true:=by kernel_rfl
def nt(n:Nat):List Int:=(List.range n).map fun i:Nat=>(i:Int)
def uh(f:bk)(n:Nat):List Int:=if f.At=2 then [0]else(nt n).map fun i=>i+1
theorem wD(n:Nat):nt (n+1)=nt n++[(n:Int)]:=by unfold nt;rw [List.range_succ,An];rfl
theorem kL(n:Nat):(nt n).length=n:=by simp [nt]
theorem JQ(n:Nat)(hn:n≤100000): ∀(k j fu:Nat),j+k=n→k<fu→mF (n:Int) fu (nt j) (j:Int)=some (nt n)
 |k,j,0,_,h=>by omega
 |0,j,fu+1,hj,_=>by
  unfold mF
  rw [bg (by simp;omega),show j=n by omega]
 |k+1,j,fu+1,hj,hf=>by
  unfold mF
  rw [bm (by simp;omega),ca (by rw [kL];simp;omega),be,←wD,bP (by omega) (by omega)]
  exact JQ n hn k (j+1) fu (by omega) (by omega)
theorem ER(n:Nat)(hn:n≤100000):qW (n:Int)=some (nt n):=JQ n hn n 0 dj (by omega) (iK (by omega))
theorem LD(n:Nat):(nt (n+1)).drop 1=(nt n).map fun i=>i+1:=by
 induction n with
 |zero=>rfl
 |succ n ih=>
  rw [wD (n+1),F8 (by rw [kL];omega),ih,wD n,An]
  rfl
theorem MM(f:bk){n:Nat}(hn:n≤8):pn f (n:Int)=some (uh f n):=by
 unfold pn uh
 by_cases h:f.At=2
 ·rw [bm (by simpa using h),bm h]
 ·rw [bg (by simpa using h),bg h,bP (by omega) (by omega)]
  have e:((n:Int)+1)=((n+1:Nat):Int):=by omega
  rw [e,ER (n+1) (by omega),be,jE (i:=1) (j:=((nt (n+1)).length:Int)) 1 (nt (n+1)).length rfl rfl (by rw [kL];omega) (dN _),be,yj,LD]
def O3(p:cC)(k:Int):Int:=match H9 k p.Frags 0 with|[]=> -1|x::_=>x.1
theorem Li(p:cC)(k:Int):qc p k=some (O3 p k):=by
 unfold qc O3
 rw [Me,be]
 cases H9 k p.Frags 0 with
 |nil=>rfl
 |cons x tl=>rfl
end Go.Proofs.YtnmjbolollcokaaGreatDoor

