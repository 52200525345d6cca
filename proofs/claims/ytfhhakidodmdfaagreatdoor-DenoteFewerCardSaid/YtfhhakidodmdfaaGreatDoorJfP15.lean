/- cU of this claim: P15. -/
import Derived.Test.YtfhhakidodmdfaaGreatDoorJfT
import Derived.Test.YtfhhakidodmdfaaGreatDoorJfP14
set_option linter.all false
namespace Go.Proofs.YtfhhakidodmdfaaGreatDoor
open Go
set_option maxRecDepth 100000

end Go.Proofs.YtfhhakidodmdfaaGreatDoor

