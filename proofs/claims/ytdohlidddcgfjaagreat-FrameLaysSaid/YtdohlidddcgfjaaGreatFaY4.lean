/- cT of this claim: Y4. -/
import Derived.Test.YtdohlidddcgfjaaGreatFaY3
import Derived.Test.YtdohlidddcgfjaaGreatFaQ3
set_option linter.all false
namespace Go.Proofs.YtdohlidddcgfjaaGreat
open Go

structure VT(q:dn):Prop where
 len:q.Frags.length≤100
 frag: ∀f∈q.Frags,rE f.Nodes
end Go.Proofs.YtdohlidddcgfjaaGreat

