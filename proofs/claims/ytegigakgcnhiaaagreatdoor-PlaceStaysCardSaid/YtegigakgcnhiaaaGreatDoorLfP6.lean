/- Facts of this claim: P6. -/
import Derived.Test.YtegigakgcnhiaaaGreatDoorLfT
import Derived.Test.YtegigakgcnhiaaaGreatDoorLfP5
namespace Go.Proofs.YtegigakgcnhiaaaGreatDoor
open Go

end Go.Proofs.YtegigakgcnhiaaaGreatDoor

