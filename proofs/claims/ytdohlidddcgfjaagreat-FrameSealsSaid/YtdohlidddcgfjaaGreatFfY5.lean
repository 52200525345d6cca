/- bS of this claim: Y5. -/
import Derived.Test.YtdohlidddcgfjaaGreatFfY4
set_option linter.all false
namespace Go.Proofs.YtdohlidddcgfjaaGreat
open Go

section
variable{q:cV}{KS:List (List (List Int))}
end
end Go.Proofs.YtdohlidddcgfjaaGreat

