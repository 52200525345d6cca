/- cu of this claim: P17. -/
import Derived.Test.YthbdkceckjihgaaGreatDoorBeT
import Derived.Test.YthbdkceckjihgaaGreatDoorBeP16
set_option linter.all false
namespace Go.Proofs.YthbdkceckjihgaaGreatDoor
open Go
set_option maxRecDepth 100000

end Go.Proofs.YthbdkceckjihgaaGreatDoor

