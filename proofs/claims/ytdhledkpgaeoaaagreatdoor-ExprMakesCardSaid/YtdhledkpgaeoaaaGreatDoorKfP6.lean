/- Facts of this claim: P6. -/
import Derived.Test.YtdhledkpgaeoaaaGreatDoorKfT
import Derived.Test.YtdhledkpgaeoaaaGreatDoorKfP5
namespace Go.Proofs.YtdhledkpgaeoaaaGreatDoor
open Go

end Go.Proofs.YtdhledkpgaeoaaaGreatDoor

