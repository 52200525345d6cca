/- cd of this claim: YX. -/
import Derived.Test.YtmogpgcfognefaaGreatDoorNcA0
import Derived.Test.YtmogpgcfognefaaGreatDoorNcY10
set_option linter.all false
namespace Go.Proofs.YtmogpgcfognefaaGreatDoor
open Go

theorem M6{r:oS}(h:Nh yn r):M7 r:=fun v hv=>by
 obtain⟨_,_,⟨h1,h2⟩,_⟩:=h.2 v hv
 have e1:IntKind.u64.min=0:=rfl
 have e2:IntKind.u64.max=18446744073709551615:=rfl
 rw [e1]at h1
 rw [e2]at h2
 exact⟨h1,by omega⟩
theorem wL(c:aT)(cA:Int)(rows:List oS)(h:Nh (Nh yn) rows):li c cA rows=some true:=yd c cA rows fun r hr=>M6 (h.2 r hr)
end Go.Proofs.YtmogpgcfognefaaGreatDoor

