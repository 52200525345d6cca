/- Facts of this claim: P5. -/
import Derived.Test.YtdhledkpgaeoaaaGreatDoorKaT
import Derived.Test.YtdhledkpgaeoaaaGreatDoorKaP4
namespace Go.Proofs.YtdhledkpgaeoaaaGreatDoor
open Go

end Go.Proofs.YtdhledkpgaeoaaaGreatDoor

