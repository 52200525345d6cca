/- bS of this claim: P18. -/
import Derived.Test.YtdohlidddcgfjaaGreatFfT
import Derived.Test.YtdohlidddcgfjaaGreatFfP17
set_option linter.all false
namespace Go.Proofs.YtdohlidddcgfjaaGreat
open Go
set_option maxRecDepth 100000

end Go.Proofs.YtdohlidddcgfjaaGreat

