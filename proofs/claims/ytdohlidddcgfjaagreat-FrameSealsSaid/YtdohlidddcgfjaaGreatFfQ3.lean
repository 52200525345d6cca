/- bS of this claim: Q1, Q2. -/
import Derived.Test.YtdohlidddcgfjaaGreatFfQ1
import Derived.Laws.RangeAny
import Derived.Shelf.Strings.CaseAny
set_option linter.all false
namespace Go.Proofs.YtdohlidddcgfjaaGreat
open Go


end Go.Proofs.YtdohlidddcgfjaaGreat

