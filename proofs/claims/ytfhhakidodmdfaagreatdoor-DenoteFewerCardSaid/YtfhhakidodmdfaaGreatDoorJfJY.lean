/- cU of this claim: JY. -/
import Derived.Test.YtfhhakidodmdfaaGreatDoorJfJX
import Derived.Test.YtfhhakidodmdfaaGreatDoorJfQ5
set_option linter.all false
namespace Go.Proofs.YtfhhakidodmdfaaGreatDoor
open Go

theorem BW(l:bc)(hl:Fp l)(b:dv)(hb:IZ b)(n:aj)(hn:yq n):n7 l b n=some true:=NO l b n (YC hl) (Qx hb) (R5 hn).cond
end Go.Proofs.YtfhhakidodmdfaaGreatDoor

