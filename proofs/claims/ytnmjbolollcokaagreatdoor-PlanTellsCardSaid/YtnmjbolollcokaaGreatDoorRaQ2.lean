/- cN of this claim: K5, K6, K7, L2, L3, L4, L5, L6, L7. -/
import Derived.Test.YtnmjbolollcokaaGreatDoorRaQ1
set_option linter.all false
namespace Go.Proofs.YtnmjbolollcokaaGreatDoor
open Go




theorem Gu{n:Nat}(h:n≤1000000):n≤kp:=by unfold kp;omega

def kn(tag l r:Int):Int×Bool:=(vZ tag l r).getD (0,false)

theorem Hs{α:Type}{xs tl:List α}{i:Nat}{y:α}(h:xs.drop i=y::tl):eh xs (i:Int)=some y∧i<xs.length∧xs.drop (i+1)=tl:=by
 have hi:i<xs.length:=by
  rcases jd i xs.length with h1|h1
  ·exact h1
  ·rw [Bg h1]at h;cases h
 rw [yx hi]at h
 injection h with h1 h2
 exact⟨by rw [kZ,oV hi,h1],hi,h2⟩
structure FQ(n:ai):Prop where
 cond:n.Cond.Nodes.length≤5000
 kinds:n.Kinds.length≤5000
 keys:n.Keys.length≤5000
 aggs:n.Aggs.length≤5000
 items:n.Items.length≤5000
 order:n.Order.length≤5000
 args: ∀g∈n.Aggs,g.Arg.Nodes.length≤5000
 exprs: ∀e∈n.Items,e.Nodes.length≤5000

structure JJ(l:cI)(j:Nat)(f:Int)(ks:List Int)(s:Nat):Prop where
 pos:1≤s
 le:s≤j+1
 fst:f=(j:Int)+1-(s:Int)
 size: ∀fu,j+1<fu→kT fu l (j:Int)=some (s:Int)
 len:ks.length≤16
 kinds: ∀fu,j+1<fu→lO fu l (j:Int)=some (ks,true)
structure Inv(l:cI)(i:Nat)(first:List Int)(kinds:List (List Int)):Prop where
 fl:first.length=i
 kl:kinds.length=i
 node: ∀j,j<i→ ∃f ks s,first[j]? =some f∧kinds[j]? =some ks∧JJ l j f ks s

structure M2(l:cI)(ob:aB):Prop where
 logic:ob.Logic=l
 pos:1≤l.Nodes.length
 le:l.Nodes.length≤60
 inv:Inv l l.Nodes.length ob.first ob.kinds
 whole:vY l ((l.Nodes.length:Int)-1)=some (l.Nodes.length:Int)

theorem qH{n:Nat}(h:n≤900000):n<kp:=Bd (Nat.lt_succ_self _) (Gu (by omega))
theorem mA(a:List Int):kU a a=some true:=by
 unfold kU
 rw [cQ (by simp)]
 have key: ∀(tl:List Int) (i:Nat),a.drop i=tl→gn a tl i=some true:=by
  intro tl
  induction tl with
  |nil=>intro i _;rfl
  |cons x tl ih=>
   intro i h
   obtain⟨h1,_,h3⟩:=Hs h
   unfold gn
   rw [h1]
   simp only [n9,bne_self_eq_false,Bc,sv]
   exact ih (i+1) h3
 exact key a 0 rfl
end Go.Proofs.YtnmjbolollcokaaGreatDoor

