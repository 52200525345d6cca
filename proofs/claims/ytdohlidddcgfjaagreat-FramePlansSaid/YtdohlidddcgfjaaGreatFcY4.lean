/- cE of this claim: Y4. -/
import Derived.Test.YtdohlidddcgfjaaGreatFcY3
import Derived.Test.YtdohlidddcgfjaaGreatFcQ3
set_option linter.all false
namespace Go.Proofs.YtdohlidddcgfjaaGreat
open Go

structure acT(q:eV):Prop where
 len:q.Frags.length<=100
 frag: ∀f∈q.Frags,om f.Nodes
end Go.Proofs.YtdohlidddcgfjaaGreat

