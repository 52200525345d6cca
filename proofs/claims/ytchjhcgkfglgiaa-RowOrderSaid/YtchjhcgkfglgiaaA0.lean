/- Facts that every law's last step wants. -/
import Derived.Test.YtchjhcgkfglgiaaRows
import Derived.Test.YtchjhcgkfglgiaaT
import Derived.Test.YtchjhcgkfglgiaaW21
namespace Go.Proofs.Ytchjhcgkfglgiaa
open Go Go.ChangeShapes Go.WideShapes Go.ChangeAt Go.RowKit

theorem own_ok : ownKnob Try.prog.godebug = none := by kernel_rfl
theorem laid_ok : laidOutB Try.prog = true := by kernel_rfl
theorem toR33 {H : Type} (enc : TypeId × Value → H) (W : World) : ToR enc Try.prog W 33 rpDValue :=
  toR_struct (l := [(3, 0), (2, 1), (31, 2), (9, 3)]) (by kernel_rfl) (by kernel_rfl) (fun y => ⟨⟨y.1, y.2.1, y.2.2.1, y.2.2.2⟩, rfl⟩)
    (frep_cons (toR_int Try.underlying3 (by kernel_rfl)) rfl (frep_cons (toR_int Try.underlying2 (by kernel_rfl)) rfl (frep_cons (toR_int Try.underlying31 (by kernel_rfl)) rfl (frep_one (toR_str Try.underlying9 (by kernel_rfl))))))
theorem toR26 {H : Type} (enc : TypeId × Value → H) (W : World) : ToR enc Try.prog W 26 (rSl rpDValue) := toR_slice Try.underlying26 (by kernel_rfl) rfl (toR33 enc W)
theorem toR22 {H : Type} (enc : TypeId × Value → H) (W : World) : ToR enc Try.prog W 22 (rSl (rSl rpDValue)) := toR_slice Try.underlying22 (by kernel_rfl) rfl (toR26 enc W)

end Go.Proofs.Ytchjhcgkfglgiaa
