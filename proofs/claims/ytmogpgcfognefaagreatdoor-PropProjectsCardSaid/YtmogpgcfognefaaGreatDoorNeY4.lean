/- co of this claim: Y4. -/
import Derived.Test.YtmogpgcfognefaaGreatDoorNeY3
import Derived.Test.YtmogpgcfognefaaGreatDoorNeQ1
set_option linter.all false
namespace Go.Proofs.YtmogpgcfognefaaGreatDoor
open Go

theorem yG{f:aK→Option Bool}{g:aK→Bool}: ∀(l:List aK) (i:Nat),(∀n∈l,f n=some (g n))→ ∃j:Int,cR f l i=some j∧decide (0≤j)=l.any g
 |[],i,_=>⟨-1,rfl,rfl⟩
 |n::tl,i,h=>by
  unfold cR
  rw [h n (lV ..),cq]
  cases hg:g n with
  |true=>exact⟨i,by simp,by simp [hg]⟩
  |false=>
   obtain⟨j,h1,h2⟩:=yG tl (i+1) (fun x hx=>h x (kG _ hx))
   exact⟨j,by rw [dd (by simp)];exact h1,by rw [h2];simp [hg]⟩
theorem AO{f:aK→Option Bool}{g:aK→Bool}{l:List aK}(h: ∀n∈l,f n=some (g n)):cS l f=some (l.any g):=by
 unfold cS ec
 obtain⟨j,h1,h2⟩:=yG l 0 h
 rw [h1,cq,h2]
structure T8(c:cn)(f:gJ)(root:List Int):Prop where
 at_:f.At=1∨f.At=2
 way:1≤f.Way∧f.Way≤4
 cols:f.Way=1↔0<f.Cols.length
 inr: ∀x∈f.Cols,0≤x∧x<(root.length:Int)
 clen:f.Cols.length≤16
 scan: ∀n∈f.Nodes,n.Op=1→f.At=1∧ ∃t,dR c.Tables n.Table=some t∧n.Kinds.length=t.Columns.length
def Q5(x:cj)(at1:Nat)(f:gJ):Prop:=
 (∀n∈f.Nodes,n.Op=9→n.Table<(at1:Int)∧lS (some x) n.Table=some n.Kinds)∧
  (at1+1=x.Plan.Frags.length→f.Way=4∧f.At=2)∧(Ow at1 x.Plan.Frags 0).length=if at1+1=x.Plan.Frags.length then 0 else 1
structure Yv(q:hJ):Prop where
 len:q.Frags.length≤100
 frag: ∀f∈q.Frags,QZ f.Nodes
def Xb(c:cn)(f:gJ)(K:List (List Int)):Prop:=KOK f.Nodes K∧1≤f.Nodes.length∧f.Nodes.length≤60∧jY f.Nodes=some (K,0,0)∧ ∃R,K[f.Nodes.length-1]? =some R∧T8 c f R
structure Yw(c:cn)(q:hJ)(KS:List (List (List Int))):Prop where
 cat:G5 c=true
 n1:1≤q.Frags.length
 n30:q.Frags.length≤30
 len:KS.length=q.Frags.length
 kok: ∀(i:Nat) (f:gJ),q.Frags[i]? =some f→ ∃K,KS[i]? =some K∧Xb c f K
 rd: ∀(i:Nat) (f:gJ),q.Frags[i]? =some f→Q5 ⟨q,c,KS⟩ i f
end Go.Proofs.YtmogpgcfognefaaGreatDoor

