/- cm of this claim: P18. -/
import Derived.Test.YthbdkceckjihgaaGreatDoorBdT
import Derived.Test.YthbdkceckjihgaaGreatDoorBdP17
set_option linter.all false
namespace Go.Proofs.YthbdkceckjihgaaGreatDoor
open Go
set_option maxRecDepth 100000

end Go.Proofs.YthbdkceckjihgaaGreatDoor

