/- cU of this claim: P14. -/
import Derived.Test.YtfhhakidodmdfaaGreatDoorJfT
import Derived.Test.YtfhhakidodmdfaaGreatDoorJfP13
set_option linter.all false
namespace Go.Proofs.YtfhhakidodmdfaaGreatDoor
open Go
set_option maxRecDepth 100000

end Go.Proofs.YtfhhakidodmdfaaGreatDoor

