/- Facts of this claim: P5. -/
import Derived.Test.YtdhledkpgaeoaaaGreatDoorKbT
import Derived.Test.YtdhledkpgaeoaaaGreatDoorKbP4
namespace Go.Proofs.YtdhledkpgaeoaaaGreatDoor
open Go

end Go.Proofs.YtdhledkpgaeoaaaGreatDoor

