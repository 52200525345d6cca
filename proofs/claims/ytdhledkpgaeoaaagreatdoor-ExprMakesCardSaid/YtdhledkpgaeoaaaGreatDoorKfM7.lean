/- Facts of this claim: M7. -/
import Derived.Test.YtdhledkpgaeoaaaGreatDoorKfM6
namespace Go.Proofs.YtdhledkpgaeoaaaGreatDoor
open Go

def us (s : Nat) (x : Int) : Int := if 0 ≤ x then x - (s : Int) else x
end Go.Proofs.YtdhledkpgaeoaaaGreatDoor

