/- Facts of this claim: MY. -/
import Derived.Test.YtdhledkpgaeoaaaGreatDoorKeMZ
import Derived.Test.YtdhledkpgaeoaaaGreatDoorKeM15
namespace Go.Proofs.YtdhledkpgaeoaaaGreatDoor
open Go

theorem exprEvals_holds (p : DExpr) (hp : okDExpr p) (rows : List (List DValue)) (hr : inL (inL okDValue) rows) : law10_ExprEvals p rows = some true := exprEvals_true p rows (ok_rgE hp) (fun r h => ok_rgR (hr.2 r h))
end Go.Proofs.YtdhledkpgaeoaaaGreatDoor

