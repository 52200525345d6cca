/- Facts of this claim: P5. -/
import Derived.Test.YtdhledkpgaeoaaaGreatDoorKdT
import Derived.Test.YtdhledkpgaeoaaaGreatDoorKdP4
namespace Go.Proofs.YtdhledkpgaeoaaaGreatDoor
open Go

end Go.Proofs.YtdhledkpgaeoaaaGreatDoor

