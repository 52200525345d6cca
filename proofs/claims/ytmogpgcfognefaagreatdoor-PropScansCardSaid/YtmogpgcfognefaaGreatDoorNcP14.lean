/- cd of this claim: P14. -/
import Derived.Test.YtmogpgcfognefaaGreatDoorNcT
import Derived.Test.YtmogpgcfognefaaGreatDoorNcP13
set_option linter.all false
namespace Go.Proofs.YtmogpgcfognefaaGreatDoor
open Go
set_option maxRecDepth 100000

end Go.Proofs.YtmogpgcfognefaaGreatDoor

