/- Facts of this claim: P9. -/
import Derived.Test.YtdhledkpgaeoaaaGreatDoorKcT
import Derived.Test.YtdhledkpgaeoaaaGreatDoorKcP8
namespace Go.Proofs.YtdhledkpgaeoaaaGreatDoor
open Go

end Go.Proofs.YtdhledkpgaeoaaaGreatDoor

