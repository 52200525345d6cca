/- cW of this claim: E11. -/
import Derived.Test.YtbmmihfagmchaaaGreatRcE10
set_option linter.all false
namespace Go.Proofs.YtbmmihfagmchaaaGreat
open Go

def Cj(l:List Int)(m:Nat)(hm:m<=100000):m5 l (m:Int)=some (l.take m):=yh l m hm
def IM(l:List gQ)(m:Nat)(hm:m<=100000):oc l (m:Int)=some (l.take m):=yh l m hm
def GF(l:List ai)(m:Nat)(hm:m<=100000):nq l (m:Int)=some (l.take m):=yh l m hm
def IL(l:List jU)(m:Nat)(hm:m<=100000):lM l (m:Int)=some (l.take m):=yh l m hm
def GE(l:List aa)(m:Nat)(hm:m<=100000):mM l (m:Int)=some (l.take m):=yh l m hm
structure Sm(n:aa):Prop where
 kinds:n.Kinds.length<=5000
 keys:n.Keys.length<=5000
 aggs:n.Aggs.length<=5000
 items:n.Items.length<=5000
 order:n.Order.length<=5000
def Gk{α:Type}{l:List α}{i:Nat}(h:i<l.length):cU l (i:Int)=some l[i]:=by rw [cI,rg h]
def Kg(nx:Nat->aw->Option aw)(i:Nat)(out:aw): ∀(tl:List ai) (j:Nat) (n:aa),j+tl.length=n.Items.length->Sm n->(∀g∈n.Aggs,g.Arg.Nodes.length<=5000)->(∀k (h:k<n.Items.length),k<j->n.Items[k].Nodes.length<=5000)->
  ∃n',cj n' /\mB nx i out tl j n=nx (i+1) {out with Nodes:=out.Nodes.set i n' }
 |[],j,n,hj,hs,ha,hi=>by
  simp only [pT,tZ]at hj
  unfold mB
  rw [vW]
  simp only [bo,t8]
  refine⟨{n with Cond:=⟨vV n.Cond.Nodes 60⟩},⟨?_,hs.kinds,hs.keys,hs.aggs,hs.items,hs.order,ha,fun e he=>?_⟩,rfl⟩
  ·have:=vU n.Cond.Nodes 60
   show(vV n.Cond.Nodes 60).length<=5000
   omega
  ·obtain⟨k,hk,rfl⟩:=BO.1 (show e∈n.Items from he)
   exact hi k hk (by omega)
 |e::tl,j,n,hj,hs,ha,hi=>by
  simp only [jv]at hj
  unfold mB
  rw [Gk (show j<n.Items.length by omega)]
  simp only [bo,vW,t8]
  have:=vU (n.Items[j]'(by omega)).Nodes 60
  exact Kg nx i out tl (j+1) _ (by simp;omega) ⟨hs.kinds,hs.keys,hs.aggs,by simp;exact hs.items,hs.order⟩ ha (fun k h hk=>by
   rw [List.getElem_set]
   split
   ·show(vV _ 60).length<=5000;omega
   ·exact hi k (by simpa using h) (by omega))
def Kh(nx:Nat->aw->Option aw)(i:Nat)(out:aw): ∀(tl:List gQ) (j:Nat) (n:aa),j+tl.length=n.Aggs.length->Sm n->(∀k (h:k<n.Aggs.length),k<j->n.Aggs[k].Arg.Nodes.length<=5000)->
  ∃n',cj n' /\mC nx i out tl j n=nx (i+1) {out with Nodes:=out.Nodes.set i n' }
 |[],j,n,hj,hs,ha=>by
  simp only [pT,tZ]at hj
  unfold mC
  exact Kg nx i out n.Items 0 n (by simp) hs (fun g T=>by
   obtain⟨k,hk,rfl⟩:=BO.1 T
   exact ha k hk (by omega)) (fun k h hk=>absurd hk (Nat.not_lt_zero _))
 |e::tl,j,n,hj,hs,ha=>by
  simp only [jv]at hj
  unfold mC
  rw [Gk (show j<n.Aggs.length by omega)]
  simp only [bo,vW,t8]
  have:=vU (n.Aggs[j]'(by omega)).Arg.Nodes 60
  exact Kh nx i out tl (j+1) _ (by simp;omega) ⟨hs.kinds,hs.keys,by simp;exact hs.aggs,hs.items,hs.order⟩ (fun k h hk=>by
   rw [List.getElem_set]
   split
   ·show(vV _ 60).length<=5000;omega
   ·exact ha k (by simpa using h) (by omega))
def Ki: ∀(tl:List aa) (i:Nat) (out:aw),i+tl.length=out.Nodes.length->(∀k (h:k<out.Nodes.length),k<i->cj out.Nodes[k])-> ∃l,jI tl i out=some l/\fM l
 |[],i,out,hi,h=>by
  simp only [pT,tZ]at hi
  exact⟨out,rfl,fun n hn=>by
   obtain⟨k,hk,rfl⟩:=BO.1 hn
   exact h k hk (by omega)⟩
 |e::tl,i,out,hi,h=>by
  simp only [jv]at hi
  unfold jI
  rw [Gk (show i<out.Nodes.length by omega)]
  simp only [bo]
  generalize out.Nodes[i]'(by omega)=m
  rw [show(6:Int)=((6:Nat):Int)from rfl,show(14:Int)=((14:Nat):Int)from rfl,show(17:Int)=((17:Nat):Int)from rfl,show(5:Int)=((5:Nat):Int)from rfl,
   Cj _ 6 (by omega),Cj _ 6 (by omega),IM _ 14 (by omega),GF _ 17 (by omega),IL _ 5 (by omega)]
  simp only [bo]
  obtain⟨n',hs,hn⟩:=Kh (jI tl) i out (m.Aggs.take 14) 0 (aa.mk m.Op m.A m.B m.Table (m.Kinds.take 6) m.Left m.Cond (m.Keys.take 6) (m.Aggs.take 14) (m.Items.take 17) (m.Order.take 5) m.Limit) (by simp)
   ⟨by simp;omega,by simp;omega,by simp;omega,by simp;omega,by simp;omega⟩ (fun k h hk=>absurd hk (Nat.not_lt_zero _))
  rw [hn]
  refine Ki tl (i+1) _ (by simp;omega) (fun k hk hlt=>?_)
  show cj ((out.Nodes.set i n')[k]'hk)
  rw [List.getElem_set]
  split
  ·exact hs
  ·exact h k (by simpa using hk) (by omega)
def OK(p:aw): ∃l,u4 p=some l/\fM l:=by
 unfold u4
 rw [show(61:Int)=((61:Nat):Int)from rfl,GE _ 61 (by omega)]
 exact Ki _ 0 _ (by simp) (fun k _ hk=>absurd hk (Nat.not_lt_zero _))
end Go.Proofs.YtbmmihfagmchaaaGreat

