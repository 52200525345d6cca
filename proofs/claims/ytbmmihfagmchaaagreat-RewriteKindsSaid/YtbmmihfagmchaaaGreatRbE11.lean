/- cP of this claim: E11. -/
import Derived.Test.YtbmmihfagmchaaaGreatRbE10
set_option linter.all false
namespace Go.Proofs.YtbmmihfagmchaaaGreat
open Go

def Cd(l:List Int)(m:Nat)(hm:m<=100000):mU l (m:Int)=some (l.take m):=ya l m hm
def IE(l:List ik)(m:Nat)(hm:m<=100000):n7 l (m:Int)=some (l.take m):=ya l m hm
def Gz(l:List ai)(m:Nat)(hm:m<=100000):ne l (m:Int)=some (l.take m):=ya l m hm
def ID(l:List ly)(m:Nat)(hm:m<=100000):lF l (m:Int)=some (l.take m):=ya l m hm
def Gy(l:List aa)(m:Nat)(hm:m<=100000):mF l (m:Int)=some (l.take m):=ya l m hm
structure Sm(n:aa):Prop where
 kinds:n.Kinds.length<=5000
 keys:n.Keys.length<=5000
 aggs:n.Aggs.length<=5000
 items:n.Items.length<=5000
 order:n.Order.length<=5000
def Gg{α:Type}{l:List α}{i:Nat}(h:i<l.length):cQ l (i:Int)=some l[i]:=by rw [cw,qY h]
def Ki(nx:Nat->aw->Option aw)(i:Nat)(out:aw): ∀(tl:List ai) (j:Nat) (n:aa),j+tl.length=n.Items.length->Sm n->(∀g∈n.Aggs,g.Arg.Nodes.length<=5000)->(∀k (h:k<n.Items.length),k<j->n.Items[k].Nodes.length<=5000)->
  ∃n',ck n' /\mu nx i out tl j n=nx (i+1) {out with Nodes:=out.Nodes.set i n' }
 |[],j,n,hj,hs,ha,hi=>by
  simp only [pM,tP]at hj
  unfold mu
  rw [vK]
  simp only [bt,tR]
  refine⟨{n with Cond:=⟨vJ n.Cond.Nodes 60⟩},⟨?_,hs.kinds,hs.keys,hs.aggs,hs.items,hs.order,ha,fun e he=>?_⟩,rfl⟩
  ·have:=vI n.Cond.Nodes 60
   show(vJ n.Cond.Nodes 60).length<=5000
   omega
  ·obtain⟨k,hk,rfl⟩:=zu.1 (show e∈n.Items from he)
   exact hi k hk (by omega)
 |e::tl,j,n,hj,hs,ha,hi=>by
  simp only [i6]at hj
  unfold mu
  rw [Gg (show j<n.Items.length by omega)]
  simp only [bt,vK,tR]
  have:=vI (n.Items[j]'(by omega)).Nodes 60
  exact Ki nx i out tl (j+1) _ (by simp;omega) ⟨hs.kinds,hs.keys,hs.aggs,by simp;exact hs.items,hs.order⟩ ha (fun k h hk=>by
   rw [List.getElem_set]
   split
   ·show(vJ _ 60).length<=5000;omega
   ·exact hi k (by simpa using h) (by omega))
def Kj(nx:Nat->aw->Option aw)(i:Nat)(out:aw): ∀(tl:List ik) (j:Nat) (n:aa),j+tl.length=n.Aggs.length->Sm n->(∀k (h:k<n.Aggs.length),k<j->n.Aggs[k].Arg.Nodes.length<=5000)->
  ∃n',ck n' /\mw nx i out tl j n=nx (i+1) {out with Nodes:=out.Nodes.set i n' }
 |[],j,n,hj,hs,ha=>by
  simp only [pM,tP]at hj
  unfold mw
  exact Ki nx i out n.Items 0 n (by simp) hs (fun g T=>by
   obtain⟨k,hk,rfl⟩:=zu.1 T
   exact ha k hk (by omega)) (fun k h hk=>absurd hk (Nat.not_lt_zero _))
 |e::tl,j,n,hj,hs,ha=>by
  simp only [i6]at hj
  unfold mw
  rw [Gg (show j<n.Aggs.length by omega)]
  simp only [bt,vK,tR]
  have:=vI (n.Aggs[j]'(by omega)).Arg.Nodes 60
  exact Kj nx i out tl (j+1) _ (by simp;omega) ⟨hs.kinds,hs.keys,by simp;exact hs.aggs,hs.items,hs.order⟩ (fun k h hk=>by
   rw [List.getElem_set]
   split
   ·show(vJ _ 60).length<=5000;omega
   ·exact ha k (by simpa using h) (by omega))
def Kk: ∀(tl:List aa) (i:Nat) (out:aw),i+tl.length=out.Nodes.length->(∀k (h:k<out.Nodes.length),k<i->ck out.Nodes[k])-> ∃l,jy tl i out=some l/\eu l
 |[],i,out,hi,h=>by
  simp only [pM,tP]at hi
  exact⟨out,rfl,fun n hn=>by
   obtain⟨k,hk,rfl⟩:=zu.1 hn
   exact h k hk (by omega)⟩
 |e::tl,i,out,hi,h=>by
  simp only [i6]at hi
  unfold jy
  rw [Gg (show i<out.Nodes.length by omega)]
  simp only [bt]
  generalize out.Nodes[i]'(by omega)=m
  rw [show(6:Int)=((6:Nat):Int)from rfl,show(14:Int)=((14:Nat):Int)from rfl,show(17:Int)=((17:Nat):Int)from rfl,show(5:Int)=((5:Nat):Int)from rfl,
   Cd _ 6 (by omega),Cd _ 6 (by omega),IE _ 14 (by omega),Gz _ 17 (by omega),ID _ 5 (by omega)]
  simp only [bt]
  obtain⟨n',hs,hn⟩:=Kj (jy tl) i out (m.Aggs.take 14) 0 (aa.mk m.Op m.A m.B m.Table (m.Kinds.take 6) m.Left m.Cond (m.Keys.take 6) (m.Aggs.take 14) (m.Items.take 17) (m.Order.take 5) m.Limit) (by simp)
   ⟨by simp;omega,by simp;omega,by simp;omega,by simp;omega,by simp;omega⟩ (fun k h hk=>absurd hk (Nat.not_lt_zero _))
  rw [hn]
  refine Kk tl (i+1) _ (by simp;omega) (fun k hk hlt=>?_)
  show ck ((out.Nodes.set i n')[k]'hk)
  rw [List.getElem_set]
  split
  ·exact hs
  ·exact h k (by simpa using hk) (by omega)
def ON(p:aw): ∃l,uR p=some l/\eu l:=by
 unfold uR
 rw [show(61:Int)=((61:Nat):Int)from rfl,Gy _ 61 (by omega)]
 exact Kk _ 0 _ (by simp) (fun k _ hk=>absurd hk (Nat.not_lt_zero _))
def yz{t:am}(h:ou t):kE t.Logic=some (vo (sortI (TB t))):=CB h.ok.1 h.ok.2
def BQ{t:am}(h:ou t):oV t.Logic=some (!(UN t)):=FP h.ok.1 h.ok.2
def wG(p:aw):nf p=some true:=by
 unfold nf
 rw [LB,bt,bo (by decide)]
 obtain⟨l,hl,hS⟩:=ON p
 rw [hl,bt]
 cases hr:bQ l with
 |false=>
  rw [Lc hS hr,bt,FR hS hr,bt,bD (by decide)]
  rfl
 |true=>
  obtain⟨t,hT,rfl⟩:=zc _ l (iQ _) hS hr
  obtain⟨r,b,Y,J⟩:=FS hT
  have key: ∃s,ou s/\KS t s/\gK t.Logic=some (s.Logic,0):=by
   cases b with
   |false=>exact⟨t,hT,KS.refl t,Y⟩
   |true=>exact⟨r,(J rfl).1.tok,(J rfl).2,Y⟩
  obtain⟨s,hs,ks,hR⟩:=key
  rw [A2 hT,bt,hR,bt,bo (show¬(((0:Int) !=0)=true) by decide),A2 hs,bt,ks.kinds]
  rw [bD (show(!(((0:Int) !=0)||((0:Int) !=0)))=true by decide),uG,bt,bt,nC,bD (show(!false)=true by decide),BQ hT,bt,BQ hs]
  have hsafe:(if(!(UN t))then((some (!(UN s))).bind fun r7=>some (!r7))else some false)=some false:=by
   cases hu:UN t with
   |true=>rfl
   |false=>rw [ks.safe hu];rfl
  rw [hsafe,bt,bt,bo (by decide),yz hT,bt,yz hs,bt,ks.tabs,uG,bt]
end Go.Proofs.YtbmmihfagmchaaaGreat

