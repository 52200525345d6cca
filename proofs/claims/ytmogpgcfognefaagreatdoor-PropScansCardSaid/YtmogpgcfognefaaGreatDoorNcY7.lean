/- cd of this claim: Y7. -/
import Derived.Test.YtmogpgcfognefaaGreatDoorNcY6
import Derived.KernelRfl
set_option linter.all false
namespace Go.Proofs.YtmogpgcfognefaaGreatDoor
open Go

theorem Bb:rP=some true:=by kernel_rfl
section
variable{c:aT}{q:eC}{KS:List (List (List Int))}
end
end Go.Proofs.YtmogpgcfognefaaGreatDoor

