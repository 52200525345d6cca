/- Facts of this claim: P7. -/
import Derived.Test.YtdhledkpgaeoaaaGreatDoorKbT
import Derived.Test.YtdhledkpgaeoaaaGreatDoorKbP6
namespace Go.Proofs.YtdhledkpgaeoaaaGreatDoor
open Go

end Go.Proofs.YtdhledkpgaeoaaaGreatDoor

