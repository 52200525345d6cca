/- Facts of this claim: M8. -/
import Derived.Test.YtdhledkpgaeoaaaGreatDoorKfM7
namespace Go.Proofs.YtdhledkpgaeoaaaGreatDoor
open Go

end Go.Proofs.YtdhledkpgaeoaaaGreatDoor

