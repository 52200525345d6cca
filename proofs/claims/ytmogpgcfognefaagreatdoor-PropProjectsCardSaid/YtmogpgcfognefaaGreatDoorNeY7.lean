/- co of this claim: Y7. -/
import Derived.Test.YtmogpgcfognefaaGreatDoorNeY6
import Derived.KernelRfl
set_option linter.all false
namespace Go.Proofs.YtmogpgcfognefaaGreatDoor
open Go

theorem Ez:u3=some true:=by kernel_rfl
section
variable{c:cn}{q:hJ}{KS:List (List (List Int))}
end
end Go.Proofs.YtmogpgcfognefaaGreatDoor

