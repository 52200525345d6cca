/- cT of this claim: P21. -/
import Derived.Test.YtfhhakidodmdfaaGreatDoorJeT
import Derived.Test.YtfhhakidodmdfaaGreatDoorJeP20
set_option linter.all false
namespace Go.Proofs.YtfhhakidodmdfaaGreatDoor
open Go
set_option maxRecDepth 100000

end Go.Proofs.YtfhhakidodmdfaaGreatDoor

