/- bR of this claim: Y4. -/
import Derived.Test.YtdohlidddcgfjaaGreatFbY3
import Derived.Test.YtdohlidddcgfjaaGreatFbQ3
set_option linter.all false
namespace Go.Proofs.YtdohlidddcgfjaaGreat
open Go

structure WQ(q:iu):Prop where
 len:q.Frags.length<=100
 frag: ∀f∈q.Frags,qv f.Nodes
end Go.Proofs.YtdohlidddcgfjaaGreat

