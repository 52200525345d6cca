/- Facts of this claim: P6. -/
import Derived.Test.YtdhledkpgaeoaaaGreatDoorKaT
import Derived.Test.YtdhledkpgaeoaaaGreatDoorKaP5
namespace Go.Proofs.YtdhledkpgaeoaaaGreatDoor
open Go

end Go.Proofs.YtdhledkpgaeoaaaGreatDoor

