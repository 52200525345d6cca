/- bS of this claim: Y6. -/
import Derived.Test.YtdohlidddcgfjaaGreatFfY5
set_option linter.all false
namespace Go.Proofs.YtdohlidddcgfjaaGreat
open Go

structure Cut5(n:aa):Prop where
 kinds:n.Kinds.length<=17
 keys:n.Keys.length<=6
 aggs:n.Aggs.length<=14
 items:n.Items.length<=17
 order:n.Order.length<=5
end Go.Proofs.YtdohlidddcgfjaaGreat

