/- Facts of this claim: P6. -/
import Derived.Test.YtdhledkpgaeoaaaGreatDoorKbT
import Derived.Test.YtdhledkpgaeoaaaGreatDoorKbP5
namespace Go.Proofs.YtdhledkpgaeoaaaGreatDoor
open Go

end Go.Proofs.YtdhledkpgaeoaaaGreatDoor

