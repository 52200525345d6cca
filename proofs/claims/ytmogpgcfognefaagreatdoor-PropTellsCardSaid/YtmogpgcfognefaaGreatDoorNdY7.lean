/- di of this claim: Y7. -/
import Derived.Test.YtmogpgcfognefaaGreatDoorNdY6
import Derived.KernelRfl
set_option linter.all false
namespace Go.Proofs.YtmogpgcfognefaaGreatDoor
open Go

theorem FM:wK=some true:=by kernel_rfl
section
variable{c:bG}{q:da}{KS:List (List (List Int))}
end
end Go.Proofs.YtmogpgcfognefaaGreatDoor

