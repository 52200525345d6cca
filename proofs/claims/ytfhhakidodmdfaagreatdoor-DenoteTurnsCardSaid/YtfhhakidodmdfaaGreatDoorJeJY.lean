/- cT of this claim: JY. -/
import Derived.Test.YtfhhakidodmdfaaGreatDoorJeJX
import Derived.Test.YtfhhakidodmdfaaGreatDoorJeQ5
set_option linter.all false
namespace Go.Proofs.YtfhhakidodmdfaaGreatDoor
open Go

theorem Bc(l:bE)(hl:EE l)(b:cB)(hb:Id b)(n:Int):nv l b n=some true:=LJ l b n (Xw hl) (Pt hb)
end Go.Proofs.YtfhhakidodmdfaaGreatDoor

