/- Facts of this claim: P6. -/
import Derived.Test.YtdhledkpgaeoaaaGreatDoorKcT
import Derived.Test.YtdhledkpgaeoaaaGreatDoorKcP5
namespace Go.Proofs.YtdhledkpgaeoaaaGreatDoor
open Go

end Go.Proofs.YtdhledkpgaeoaaaGreatDoor

