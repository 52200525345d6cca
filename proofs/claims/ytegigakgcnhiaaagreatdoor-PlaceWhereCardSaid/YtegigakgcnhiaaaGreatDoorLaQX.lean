/- Facts of this claim: QX. -/
import Derived.Test.YtegigakgcnhiaaaGreatDoorLaA0
import Derived.Test.YtegigakgcnhiaaaGreatDoorLaQ1
namespace Go.Proofs.YtegigakgcnhiaaaGreatDoor
open Go

theorem okU_of {r : Row} (h : inL okDValue r) : okU r := fun v hv => by
  obtain ⟨_, _, ⟨h1, h2⟩, _⟩ := h.2 v hv
  have e1 : IntKind.u64.min = 0 := rfl
  have e2 : IntKind.u64.max = 18446744073709551615 := rfl
  rw [e1] at h1
  rw [e2] at h2
  exact ⟨h1, by omega⟩
theorem placeWhere_holds (c : DCatalog) (r : Row) (h : inL okDValue r) (s : DStep) : law17_PlaceWhere c r s = some true := placeWhere_true c r (okU_of h) s
end Go.Proofs.YtegigakgcnhiaaaGreatDoor

