/- co of this claim: ZX. -/
import Derived.Test.YtmogpgcfognefaaGreatDoorNeA0
import Derived.Test.YtmogpgcfognefaaGreatDoorNeZ3
set_option linter.all false
namespace Go.Proofs.YtmogpgcfognefaaGreatDoor
open Go

theorem Mw{n:Int}(h:OR .i64 n):r64 n:=by
 obtain⟨h1,h2⟩:=h
 have e1:IntKind.i64.min= -9223372036854775808:=rfl
 have e2:IntKind.i64.max=9223372036854775807:=rfl
 rw [e1]at h1
 rw [e2]at h2
 exact⟨h1,h2⟩
theorem wV(items:List Int)(h1:Xz (OR .i64) items)(keys:List Int)(rows:List (List Int))(h2:Xz (fun xs=>xs.length=4∧ ∀x∈xs,OR .i64 x) rows):kO items keys rows=some true:=
 xK items keys rows (fun x hx=>Mw (h1.2 x hx)) fun x hx=>⟨(h2.2 x hx).1,fun v hv=>Mw ((h2.2 x hx).2 v hv)⟩
end Go.Proofs.YtmogpgcfognefaaGreatDoor

