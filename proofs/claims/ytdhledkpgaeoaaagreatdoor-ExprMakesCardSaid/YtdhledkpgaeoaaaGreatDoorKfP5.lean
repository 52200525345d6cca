/- Facts of this claim: P5. -/
import Derived.Test.YtdhledkpgaeoaaaGreatDoorKfT
import Derived.Test.YtdhledkpgaeoaaaGreatDoorKfP4
namespace Go.Proofs.YtdhledkpgaeoaaaGreatDoor
open Go

end Go.Proofs.YtdhledkpgaeoaaaGreatDoor

