/- Facts of this claim: P6. -/
import Derived.Test.YtegigakgcnhiaaaGreatDoorLeT
import Derived.Test.YtegigakgcnhiaaaGreatDoorLeP5
namespace Go.Proofs.YtegigakgcnhiaaaGreatDoor
open Go

end Go.Proofs.YtegigakgcnhiaaaGreatDoor

