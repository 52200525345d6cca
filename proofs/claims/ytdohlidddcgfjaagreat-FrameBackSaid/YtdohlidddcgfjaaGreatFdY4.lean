/- bT of this claim: Y4. -/
import Derived.Test.YtdohlidddcgfjaaGreatFdY3
import Derived.Test.YtdohlidddcgfjaaGreatFdQ3
set_option linter.all false
namespace Go.Proofs.YtdohlidddcgfjaaGreat
open Go

structure acY(q:cT):Prop where
 len:q.Frags.length<=100
 frag: ∀f∈q.Frags,mq f.Nodes
end Go.Proofs.YtdohlidddcgfjaaGreat

