/- Facts of this claim: MZ. -/
import Derived.Test.YtdhledkpgaeoaaaGreatDoorKdA0
import Derived.Test.YtdhledkpgaeoaaaGreatDoorKdM9
namespace Go.Proofs.YtdhledkpgaeoaaaGreatDoor
open Go

theorem exprTells_holds (l : List DExpr) (kinds lefts : List Int) : law10_ExprTells l kinds lefts = some true := exprTells_true l kinds lefts
end Go.Proofs.YtdhledkpgaeoaaaGreatDoor

