/- Facts of this claim: P7. -/
import Derived.Test.YtdhledkpgaeoaaaGreatDoorKcT
import Derived.Test.YtdhledkpgaeoaaaGreatDoorKcP6
namespace Go.Proofs.YtdhledkpgaeoaaaGreatDoor
open Go

end Go.Proofs.YtdhledkpgaeoaaaGreatDoor

