/- bO of this claim: Y5. -/
import Derived.Test.YtdohlidddcgfjaaGreatFeY4
set_option linter.all false
namespace Go.Proofs.YtdohlidddcgfjaaGreat
open Go

section
variable{q:da}{KS:List (List (List Int))}
end
end Go.Proofs.YtdohlidddcgfjaaGreat

