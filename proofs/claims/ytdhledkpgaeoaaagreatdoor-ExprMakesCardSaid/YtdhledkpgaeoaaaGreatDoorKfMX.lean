/- Facts of this claim: MX. -/
import Derived.Test.YtdhledkpgaeoaaaGreatDoorKfA0
import Derived.Test.YtdhledkpgaeoaaaGreatDoorKfM16
namespace Go.Proofs.YtdhledkpgaeoaaaGreatDoor
open Go

theorem exprMakes_holds (tags : List Int) (leaf : DENode) (pair : List DExpr) (hp : pair.length = 2 ∧ ∀ x ∈ pair, okDExpr x) : law10_ExprMakes tags leaf pair = some true := exprMakes_true tags leaf pair hp.1
end Go.Proofs.YtdhledkpgaeoaaaGreatDoor

