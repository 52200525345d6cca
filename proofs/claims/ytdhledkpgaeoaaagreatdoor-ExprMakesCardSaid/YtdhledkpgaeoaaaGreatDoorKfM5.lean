/- Facts of this claim: M5. -/
import Derived.Test.YtdhledkpgaeoaaaGreatDoorKfM4
namespace Go.Proofs.YtdhledkpgaeoaaaGreatDoor
open Go

end Go.Proofs.YtdhledkpgaeoaaaGreatDoor

