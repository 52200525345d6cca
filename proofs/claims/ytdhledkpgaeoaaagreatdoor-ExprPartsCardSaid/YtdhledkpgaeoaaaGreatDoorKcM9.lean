/- Facts of this claim: M9. -/
import Derived.Test.YtdhledkpgaeoaaaGreatDoorKcM8
namespace Go.Proofs.YtdhledkpgaeoaaaGreatDoor
open Go

end Go.Proofs.YtdhledkpgaeoaaaGreatDoor

