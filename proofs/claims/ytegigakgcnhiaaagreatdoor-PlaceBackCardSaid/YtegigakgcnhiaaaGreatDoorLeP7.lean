/- Facts of this claim: P7. -/
import Derived.Test.YtegigakgcnhiaaaGreatDoorLeT
import Derived.Test.YtegigakgcnhiaaaGreatDoorLeP6
import Derived.Test.YtegigakgcnhiaaaGreatDoorLeNS
namespace Go.Proofs.YtegigakgcnhiaaaGreatDoor
open Go

end Go.Proofs.YtegigakgcnhiaaaGreatDoor

