/- Facts of this claim: MZ. -/
import Derived.Test.YtdhledkpgaeoaaaGreatDoorKeA0
import Derived.Test.YtdhledkpgaeoaaaGreatDoorKeM9
namespace Go.Proofs.YtdhledkpgaeoaaaGreatDoor
open Go

theorem ok_r64 {v : DValue} (h : okDValue v) : r64 v.N := by
  have := h.2.1
  unfold inK at this
  exact ⟨this.1, this.2⟩
theorem ok_rgE {e : DExpr} (h : okDExpr e) : rgE e.Nodes := fun n hn => ok_r64 (h.2 n hn).2.2.2.2
theorem ok_rgR {r : List DValue} (h : inL okDValue r) : rgR r := fun v hv => ok_r64 (h.2 v hv)
end Go.Proofs.YtdhledkpgaeoaaaGreatDoor

