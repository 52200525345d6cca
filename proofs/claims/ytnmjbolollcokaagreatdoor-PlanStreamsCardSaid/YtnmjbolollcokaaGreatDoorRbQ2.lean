/- cJ of this claim: K5, K6, K7, L2, L3, L4, L5, L6, L7. -/
import Derived.Test.YtnmjbolollcokaaGreatDoorRbQ1
set_option linter.all false
namespace Go.Proofs.YtnmjbolollcokaaGreatDoor
open Go




theorem GB{n:Nat}(h:n≤1000000):n≤ni:=by unfold ni;omega

def kn(tag l r:Int):Int×Bool:=(vU tag l r).getD (0,false)

structure FW(n:ai):Prop where
 cond:n.Cond.Nodes.length≤5000
 kinds:n.Kinds.length≤5000
 keys:n.Keys.length≤5000
 aggs:n.Aggs.length≤5000
 items:n.Items.length≤5000
 order:n.Order.length≤5000
 args: ∀g∈n.Aggs,g.Arg.Nodes.length≤5000
 exprs: ∀e∈n.Items,e.Nodes.length≤5000

structure JL(l:cF)(j:Nat)(f:Int)(ks:List Int)(s:Nat):Prop where
 pos:1≤s
 le:s≤j+1
 fst:f=(j:Int)+1-(s:Int)
 size: ∀fu,j+1<fu→kC fu l (j:Int)=some (s:Int)
 len:ks.length≤16
 kinds: ∀fu,j+1<fu→lv fu l (j:Int)=some (ks,true)
structure Inv(l:cF)(i:Nat)(first:List Int)(kinds:List (List Int)):Prop where
 fl:first.length=i
 kl:kinds.length=i
 node: ∀j,j<i→ ∃f ks s,first[j]? =some f∧kinds[j]? =some ks∧JL l j f ks s

structure M2(l:cF)(ob:aB):Prop where
 logic:ob.Logic=l
 pos:1≤l.Nodes.length
 le:l.Nodes.length≤60
 inv:Inv l l.Nodes.length ob.first ob.kinds
 whole:vT l ((l.Nodes.length:Int)-1)=some (l.Nodes.length:Int)

theorem AF{n:Nat}(h:n≤900000):n<ni:=Bf (Nat.lt_succ_self _) (GB (by omega))
end Go.Proofs.YtnmjbolollcokaaGreatDoor

