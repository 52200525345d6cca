/- bO of this claim: Y4. -/
import Derived.Test.YtdohlidddcgfjaaGreatFeY3
import Derived.Test.YtdohlidddcgfjaaGreatFeQ3
set_option linter.all false
namespace Go.Proofs.YtdohlidddcgfjaaGreat
open Go

structure aad(q:da):Prop where
 len:q.Frags.length<=100
 frag: ∀f∈q.Frags,rC f.Nodes
end Go.Proofs.YtdohlidddcgfjaaGreat

