/- Facts of this claim: MZ. -/
import Derived.Test.YtdhledkpgaeoaaaGreatDoorKcA0
import Derived.Test.YtdhledkpgaeoaaaGreatDoorKcM9
namespace Go.Proofs.YtdhledkpgaeoaaaGreatDoor
open Go

theorem ok_r64 {v : DValue} (h : okDValue v) : r64 v.N := by
  have := h.2.1
  unfold inK at this
  exact ⟨this.1, this.2⟩
theorem ok_rgE {e : DExpr} (h : okDExpr e) : rgE e.Nodes := fun n hn => ok_r64 (h.2 n hn).2.2.2.2
theorem ok_rgR {r : List DValue} (h : inL okDValue r) : rgR r := fun v hv => ok_r64 (h.2 v hv)
theorem exprParts_holds (p : DExpr) (hp : okDExpr p) (r : List DValue) (hr : inL okDValue r) : law10_ExprParts p r = some true := exprParts_true p r (ok_rgE hp) (ok_rgR hr)
end Go.Proofs.YtdhledkpgaeoaaaGreatDoor

