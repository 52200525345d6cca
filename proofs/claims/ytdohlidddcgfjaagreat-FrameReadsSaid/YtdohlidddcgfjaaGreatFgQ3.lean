import Derived.Test.YtdohlidddcgfjaaGreatFgQ1
import Derived.Laws.RangeAny
import Derived.Shelf.Strings.CaseAny
set_option linter.all false
namespace Go.Proofs.YtdohlidddcgfjaaGreat
open Go
