import Derived.Test.YtdohlidddcgfjaaGreatFgY5
set_option linter.all false
namespace Go.Proofs.YtdohlidddcgfjaaGreat
open Go
structure Cut5(n:al):Prop where
 g':n.A'.length<=17
 keys:n.v'.length<=6
 aggs:n.u'.length<=14
 items:n.D'.length<=17
 order:n.B'.length<=5
