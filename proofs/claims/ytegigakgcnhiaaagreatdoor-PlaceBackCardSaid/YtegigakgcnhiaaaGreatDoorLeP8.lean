/- Facts of this claim: P8. -/
import Derived.Test.YtegigakgcnhiaaaGreatDoorLeT
import Derived.Test.YtegigakgcnhiaaaGreatDoorLeP7
import Derived.Test.YtegigakgcnhiaaaGreatDoorLeNS
namespace Go.Proofs.YtegigakgcnhiaaaGreatDoor
open Go

end Go.Proofs.YtegigakgcnhiaaaGreatDoor

