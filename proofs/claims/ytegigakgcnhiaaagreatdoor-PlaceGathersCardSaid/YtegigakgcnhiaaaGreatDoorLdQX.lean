/- Facts of this claim: QX. -/
import Derived.Test.YtegigakgcnhiaaaGreatDoorLdA0
import Derived.Test.YtegigakgcnhiaaaGreatDoorLdQ1
namespace Go.Proofs.YtegigakgcnhiaaaGreatDoor
open Go

theorem okU_of {r : Row} (h : inL okDValue r) : okU r := fun v hv => by
 obtain ⟨_, _, ⟨h1, h2⟩, _⟩ := h.2 v hv
 have e1 : IntKind.u64.min = 0 := rfl
 have e2 : IntKind.u64.max = 18446744073709551615 := rfl
 rw [e1] at h1
 rw [e2] at h2
 exact ⟨h1, by omega⟩
theorem allU_of {b : DBase} (h : okDBase b) : allU b.Tables := fun rows hr r hrr => okU_of (((show inL (inL (inL okDValue)) b.Tables from h).2 rows hr).2 r hrr)
theorem allUX_of {l : DLayout} (h : okDLayout l) : allUX l.Parts := fun y hy => allU_of ((show inL okDBase l.Parts from h).2 y hy)
theorem placeGathers_holds (c : DCatalog) (l : DLayout) (h : okDLayout l) (o : DLayout) : dY c l o = some true := placeGathers_true c l o (allUX_of h)
end Go.Proofs.YtegigakgcnhiaaaGreatDoor

