/- cd of this claim: P11. -/
import Derived.Test.YtmogpgcfognefaaGreatDoorNcT
import Derived.Test.YtmogpgcfognefaaGreatDoorNcP10
set_option linter.all false
namespace Go.Proofs.YtmogpgcfognefaaGreatDoor
open Go
set_option maxRecDepth 100000

end Go.Proofs.YtmogpgcfognefaaGreatDoor

