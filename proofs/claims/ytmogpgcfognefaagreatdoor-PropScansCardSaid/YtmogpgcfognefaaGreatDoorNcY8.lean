/- cd of this claim: Y8. -/
import Derived.Test.YtmogpgcfognefaaGreatDoorNcY7
set_option linter.all false
namespace Go.Proofs.YtmogpgcfognefaaGreatDoor
open Go

section
variable{c:aT}{KS:List (List (List Int))}{kinds:List Int}{ns:List aZ}
end
end Go.Proofs.YtmogpgcfognefaaGreatDoor

