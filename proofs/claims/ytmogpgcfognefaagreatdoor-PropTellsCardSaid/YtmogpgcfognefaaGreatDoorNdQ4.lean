/- di of this claim: Q3. -/
import Derived.Test.YtmogpgcfognefaaGreatDoorNdQ2
set_option linter.all false
namespace Go.Proofs.YtmogpgcfognefaaGreatDoor
open Go

theorem Sp{c:bG}(h:AH c=true): ∀t∈c.Tables,uv t=true:=by
 unfold AH at h
 rw [BT]at h
 simp only [iz,oU]at h
 exact m3.1 h.2.1
theorem N1{t:bU}(h:uv t=true):t.Columns.length≤4:=by
 unfold uv at h
 simp only [iz,oU]at h
 exact h.1.2
end Go.Proofs.YtmogpgcfognefaaGreatDoor

