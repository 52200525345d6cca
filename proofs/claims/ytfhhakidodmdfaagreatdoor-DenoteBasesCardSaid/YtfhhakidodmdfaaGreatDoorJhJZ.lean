/- cX of this claim: JZ. -/
import Derived.Test.YtfhhakidodmdfaaGreatDoorJhA0
import Derived.Test.YtfhhakidodmdfaaGreatDoorJhJB
set_option linter.all false
namespace Go.Proofs.YtfhhakidodmdfaaGreatDoor
open Go

theorem uQ(c:cY)(b:eU):jA c b=some true:=DY c b
end Go.Proofs.YtfhhakidodmdfaaGreatDoor

