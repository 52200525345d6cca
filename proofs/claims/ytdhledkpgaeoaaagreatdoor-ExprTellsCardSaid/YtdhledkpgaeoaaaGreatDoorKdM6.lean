/- Facts of this claim: M6. -/
import Derived.Test.YtdhledkpgaeoaaaGreatDoorKdM5
namespace Go.Proofs.YtdhledkpgaeoaaaGreatDoor
open Go

def exT (t : Tr) : DExpr := ⟨t.flat 0⟩
theorem clone_node (l : List DENode) (h : l.length ≤ 1000000) : slices_Clone_api_ENode_api_ENode l = some l := by
  unfold slices_Clone_api_ENode_api_ENode
  rw [app_ok (by simp; omega)]
  simp
end Go.Proofs.YtdhledkpgaeoaaaGreatDoor

