/- dr of this claim: U1. -/
import Derived.Test.YtnmjbolollcokaaGreatDoorRdQ1
set_option linter.all false
namespace Go.Proofs.YtnmjbolollcokaaGreatDoor
open Go

end Go.Proofs.YtnmjbolollcokaaGreatDoor

