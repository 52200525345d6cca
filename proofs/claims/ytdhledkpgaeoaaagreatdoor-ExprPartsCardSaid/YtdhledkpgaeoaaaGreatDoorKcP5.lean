/- Facts of this claim: P5. -/
import Derived.Test.YtdhledkpgaeoaaaGreatDoorKcT
import Derived.Test.YtdhledkpgaeoaaaGreatDoorKcP4
namespace Go.Proofs.YtdhledkpgaeoaaaGreatDoor
open Go

end Go.Proofs.YtdhledkpgaeoaaaGreatDoor

