/- cP of this claim: JY. -/
import Derived.Test.YtfhhakidodmdfaaGreatDoorJgJX
import Derived.Test.YtfhhakidodmdfaaGreatDoorJgQ5
set_option linter.all false
namespace Go.Proofs.YtfhhakidodmdfaaGreatDoor
open Go

theorem BE(l:bc)(hl:EZ l)(b:dx)(hb:IA b):nL l b=some true:=Ma l b (X1 hl) (PM hb)
end Go.Proofs.YtfhhakidodmdfaaGreatDoor

