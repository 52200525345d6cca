/- Facts of this claim: P8. -/
import Derived.Test.YtdhledkpgaeoaaaGreatDoorKaT
import Derived.Test.YtdhledkpgaeoaaaGreatDoorKaP7
namespace Go.Proofs.YtdhledkpgaeoaaaGreatDoor
open Go

end Go.Proofs.YtdhledkpgaeoaaaGreatDoor

