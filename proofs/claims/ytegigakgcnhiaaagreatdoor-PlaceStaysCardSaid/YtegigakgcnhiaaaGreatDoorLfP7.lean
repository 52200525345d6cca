/- Facts of this claim: P7. -/
import Derived.Test.YtegigakgcnhiaaaGreatDoorLfT
import Derived.Test.YtegigakgcnhiaaaGreatDoorLfP6
import Derived.Test.YtegigakgcnhiaaaGreatDoorLfNS
namespace Go.Proofs.YtegigakgcnhiaaaGreatDoor
open Go

end Go.Proofs.YtegigakgcnhiaaaGreatDoor

