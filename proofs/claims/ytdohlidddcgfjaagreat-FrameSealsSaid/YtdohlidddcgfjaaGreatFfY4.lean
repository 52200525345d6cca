/- bS of this claim: Y4. -/
import Derived.Test.YtdohlidddcgfjaaGreatFfY3
import Derived.Test.YtdohlidddcgfjaaGreatFfQ3
set_option linter.all false
namespace Go.Proofs.YtdohlidddcgfjaaGreat
open Go

structure adN(q:cV):Prop where
 len:q.Frags.length<=100
 frag: ∀f∈q.Frags,mz f.Nodes
end Go.Proofs.YtdohlidddcgfjaaGreat

