/- Facts of this claim: P7. -/
import Derived.Test.YtdhledkpgaeoaaaGreatDoorKaT
import Derived.Test.YtdhledkpgaeoaaaGreatDoorKaP6
namespace Go.Proofs.YtdhledkpgaeoaaaGreatDoor
open Go

end Go.Proofs.YtdhledkpgaeoaaaGreatDoor

