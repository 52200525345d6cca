import Derived.Test.YtdohlidddcgfjaaGreatFgY4
set_option linter.all false
namespace Go.Proofs.YtdohlidddcgfjaaGreat
open Go
section
variable{q:iG}{KS:List (List (List Int))}
end
