/- Facts of this claim: M6. -/
import Derived.Test.YtdhledkpgaeoaaaGreatDoorKaM5
namespace Go.Proofs.YtdhledkpgaeoaaaGreatDoor
open Go

end Go.Proofs.YtdhledkpgaeoaaaGreatDoor

