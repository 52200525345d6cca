/- Facts of this claim: P7. -/
import Derived.Test.YtegigakgcnhiaaaGreatDoorLcT
import Derived.Test.YtegigakgcnhiaaaGreatDoorLcP6
import Derived.Test.YtegigakgcnhiaaaGreatDoorLcNS
namespace Go.Proofs.YtegigakgcnhiaaaGreatDoor
open Go

end Go.Proofs.YtegigakgcnhiaaaGreatDoor

