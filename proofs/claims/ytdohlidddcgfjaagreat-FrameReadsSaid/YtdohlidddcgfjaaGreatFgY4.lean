import Derived.Test.YtdohlidddcgfjaaGreatFgY3
import Derived.Test.YtdohlidddcgfjaaGreatFgQ3
set_option linter.all false
namespace Go.Proofs.YtdohlidddcgfjaaGreat
open Go
structure agU(q:iG):Prop where
 len:q.L'.length<=100
 frag: ∀f∈q.L',sr f.i'
