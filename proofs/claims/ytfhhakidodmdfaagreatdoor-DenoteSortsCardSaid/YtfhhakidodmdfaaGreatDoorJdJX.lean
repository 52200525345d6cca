/- da of this claim: JX. -/
import Derived.Test.YtfhhakidodmdfaaGreatDoorJdA0
import Derived.Test.YtfhhakidodmdfaaGreatDoorJdQ4
set_option linter.all false
namespace Go.Proofs.YtfhhakidodmdfaaGreatDoor
open Go

theorem A6(rows:List co)(order:List dn)(limit:Int):ne rows order limit=some true:=Lw rows order limit
end Go.Proofs.YtfhhakidodmdfaaGreatDoor

