/- cU of this claim: P22. -/
import Derived.Test.YtfhhakidodmdfaaGreatDoorJfT
import Derived.Test.YtfhhakidodmdfaaGreatDoorJfP21
set_option linter.all false
namespace Go.Proofs.YtfhhakidodmdfaaGreatDoor
open Go
set_option maxRecDepth 100000

end Go.Proofs.YtfhhakidodmdfaaGreatDoor

